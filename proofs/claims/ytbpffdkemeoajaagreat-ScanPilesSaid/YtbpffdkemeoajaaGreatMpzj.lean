/- - -/
import Derived.Test.YtbpffdkemeoajaaGreatMpzh
import Derived.Test.YtbpffdkemeoajaaGreatMpzi
open Go.Proofs.Tryz
open Go.IntKind (i64)
set_option maxRecDepth 100000
namespace Go.Proofs.YtbpffdkemeoajaaGreat
open Go.SX
theorem QdY{d:Puz}(h:d.ok=true):d.pK.ok=true:=by
 rw[<-QDr]at h;simp only[okR,qbA]at h;exact h.1
theorem QTH{x:QD}(h:x.d.ok=true):Vy x.d.pK x.sK=(QN (Z2 x) x.sK.n 0).isNone:=by
 unfold Vy
 have:Jd ⟨x.d.pK⟩ x.sK=Z2 x:=by
  funext k;simp only[Jd,Z2,QdY h,Bool.true_and]
 rw[this]
variable (d:Puz)(x:QD)(l:Rw QB)(s:QQ)(al tk:Int)(k:Nat)
def okQ:Bool := !(((((!x.d.ok||decide ((x.sK.n:Int)>12))||decide ((x.hang.n:Int)>12)) || !Qe x.lost 0 9) || !Qe x.fK 0 3))&&((QN (Z2 x) x.sK.n 0).isNone&&(QN (Jf x) x.hang.n 0).isNone)
theorem QTg:okQ x=x.ok:=by
 unfold okQ QD.ok QD.sz jxO;cases h:x.d.ok with
 | false=>simp
 | true=>
  rw[QTH h,QHf]
  by_cases h1:(x.sK.n:Int)>12<;>by_cases h2:(x.hang.n:Int)>12<;>cases Qe x.lost 0 9<;>cases Qe x.fK 0 3<;>simp_all<;>omega
def jy:WF (QD×Unit):=λ|(x,_)=>(decide (x.d.ps.n<=1000/\x.sK.n<=1000/\x.hang.n<=1000),.bool false x.ok,[])
def QOg:FC:=wFC jy
theorem QU8 :KI (mkS prog V9) (QEU prog x) f18 (QW.vals 0 ((x,()):QD×Unit)) (QW.blks 0 ((x,()):QD×Unit)) 8 = .need (decide (x.d.ps.n<=x.d.ps.n)&&true&&decide (x.d.ps.n<=1000)) (.need (!!!x.d.ok||!!x.d.ok) (.need (!!!x.d.ok||!!x.d.ok) (.need (!!!x.d.ok||!!x.d.ok) (.need (!x.d.ok||!!x.d.ok) (.bnd (!x.d.ok||decide ((x.sK.n:Int)>12)) (λ(x0:Bool)=>.need (!!x0||!x0) (.need (!!x0||!x0) (.need (!!x0||!x0) (.need (x0||!x0) (.bnd (x0||decide ((x.hang.n:Int)>12)) (λ(x1:Bool)=>.need (!!x1||!x1) (.need (!!x1||true&&!x1) (.need (!!x1||!x1) (.need (x1||!x1) (.bnd (x1||!Qe x.lost (0:Int) (9:Int)) (λ(x2:Bool)=>.need (!!x2||!x2) (.need (!!x2||true&&!x2) (.need (!!x2||!x2) (.need (x2||!x2) (.bnd (x2||!Qe x.fK (0:Int) (3:Int)) (λ(x3:Bool)=>.br (x3) (.leaf (.bool true false) ([])) (.ak [0=0,0=0,(0:Int)=0] (.ak (xq x) (.ak (xp x) (.both (.asm ((QN (Z2 x) x.sK.n 0).isNone=false) (.all (λ(g4:Nat->Value)=>.leaf (.bool false false) ([])))) (.asm ((QN (Z2 x) x.sK.n 0).isNone=true) (.all (λ(g5:Nat->Value)=>.ak [0=0,0=0,(0:Int)=0] (.ak (xq x) (.ak (xp x) (.both (.asm ((QN (Jf x) x.hang.n 0).isNone=false) (.all (λ(g6:Nat->Value)=>.leaf (.bool false false) ([])))) (.asm ((QN (Jf x) x.hang.n 0).isNone=true) (.all (λ(g7:Nat->Value)=>.leaf (.bool true true) ([]))))))))))))))))))))))))))))))))))):=by kernel_rfl
theorem Qdc:JG (mkS prog V9) (Qi f18) 8 jy (λx_=>(QEU prog x_.1)):=by
 refine⟨?_⟩;rintro⟨x,⟨⟩⟩ hp G h1 h2;exact QUv x (qdt hp).2.1 (qdt hp).2.2 G h1 h2
theorem QYu:JF (mkS prog V9) f18 8 jy (λx_=>(QEU prog x_.1)):=by
 refine⟨?_⟩;rintro⟨x,⟨⟩⟩ hp;refine⟨⟨rfl,by simp[jy],rfl⟩,⟨?_⟩⟩
 rw[QU8 x];simp only[jy]at hp;obtain⟨hn,_,_⟩:=qdt hp;have end_:∀{z:Bool} {b:Bool},okQ x=b->(QE.leaf (AV.bool z b) []).den (VQ 8 (jy (x,())).2.1 (jy (x,())).2.2):=λ{z b} h=>KT (show b=x.ok by rw[<-QTg];exact h.symm) rfl
 refine QF (by simp;omega) ?_
 unfold okQ at end_;generalize x.d.ok=b0 at end_ ⊢;generalize decide ((x.sK.n:Int)>12)=b1 at end_ ⊢;generalize decide ((x.hang.n:Int)>12)=b2 at end_ ⊢;generalize Qe x.lost 0 9=b3 at end_ ⊢;generalize Qe x.fK 0 3=b4 at end_ ⊢
 repeat' first|refine QF rfl ?_|refine QF (by grind) ?_|refine K6 λz hz=>?_
 refine QH (λq=>end_ (by grind)) (λq=>?_)
 repeat' first|refine QX (show _=_ by with_reducible rfl) ?_|refine QX (show _<=_ from qlr _) ?_|refine QX (show QC _ _ _ _ from qRr) ?_
 refine Vx (KB λh=>Q7 λg=>end_ (by grind)) (KB λh=>Q7 λg=>?_)
 repeat' first|refine QX (show _=_ by with_reducible rfl) ?_|refine QX (show _<=_ from qlr _) ?_|refine QX (show QC _ _ _ _ from qRr) ?_
 refine Vx (KB λh2=>Q7 λg=>end_ (by grind)) (KB λh2=>Q7 λg=>end_ (by grind))
theorem Qbn:QO prog 18 QOg:=
 JI (Vq jV) func18 (by kernel_rfl) (by kernel_rfl) (by decide) Qdc QYu
def W4:Tab:=Qh V9 18 QOg
theorem QHL:QZ W4:=jV.add Qbn
def Wg(c s:Int):Bool:=decide ((x.d.ps.n:Int)>14)||(decide ((x.sK.n:Int)>18)||(decide ((x.hang.n:Int)>18)||(x.ok&&(decide ((x.d.ps.n:Int)>c)||decide ((x.sK.n:Int)>s)))))
def j8:WF (QD×Int×Int×Unit):=λ|(x,(c,(s,_)))=>(true,.bool false (Wg x c s),[])
def QMx:FC:=wFC j8
theorem QTK(c:Int)(s:Int):KI (mkS prog W4) (hnd (mkS prog W4) 1) f6 (QW.vals 0 ((x,c,s,()):QD×Int×Int×Unit)) (QW.blks 0 ((x,c,s,()):QD×Int×Int × Unit)) 8 = .need (!!decide ((x.d.ps.n:Int)>14)||!decide ((x.d.ps.n:Int)>14)) (.need (!!decide ((x.d.ps.n:Int)>14)||!decide ((x.d.ps.n:Int)>14)) (.need (!!decide ((x.d.ps.n:Int)>14)||!decide ((x.d.ps.n:Int)>14)) (.need (decide ((x.d.ps.n:Int)>14)||!decide ((x.d.ps.n:Int)>14)) (.bnd (decide ((x.d.ps.n:Int)>14)||decide ((x.sK.n:Int)>18)) (λ(x0:Bool)=>.need (!!x0||!x0) (.need (!!x0||!x0) (.need (!!x0||!x0) (.need (x0||!x0) (.bnd (x0||decide ((x.hang.n:Int)>18)) (λ(x1:Bool)=>.need (!!x1||decide (x.d.ps.n<=x.d.ps.n)&&(decide (x.sK.n<=x.sK.n)&&(decide (x.hang.n<=x.hang.n)&&true))&&decide (x.d.ps.n<=1000/\x.sK.n<=1000/\x.hang.n<=1000)&&!x1) (.need (!!x1||!x1) (.need (!(!x1&&x.ok)||!x1&&x.ok) (.need (!(!x1&&x.ok)||!x1&&x.ok) (.need (!(!x1&&x.ok)||!x1&&x.ok) (.need (!(!x1&&x.ok)||!x1&&x.ok&&(!x1&&x.ok)) (.need (!(!x1&&x.ok)||!x1&&x.ok) (.need (!(!x1&&x.ok&&!decide ((x.d.ps.n:Int)>c))||!x1&&x.ok&&!decide ((x.d.ps.n:Int)>c)) (.need (!(!x1&&x.ok&&!decide ((x.d.ps.n:Int)>c))||!x1&&x.ok&&!decide ((x.d.ps.n:Int)>c)) (.need (!(!x1&&x.ok&&!decide ((x.d.ps.n:Int)>c))||!x1&&x.ok&&!decide ((x.d.ps.n:Int)>c)&&(!x1&&x.ok&&!decide ((x.d.ps.n:Int)>c))) (.need (!(!x1&&x.ok)||!x1&&x.ok&&(decide ((x.d.ps.n:Int)>c)||!x1&&x.ok&&!decide ((x.d.ps.n:Int)>c))) (.bnd (decide ((x.d.ps.n:Int)>c)||decide ((x.sK.n:Int)>s)) (λ(x2:Bool)=>.need (!!x1||!x1&&(!x.ok||!x1&&x.ok)) (.bnd (x.ok&&x2) (λ(x3:Bool)=>.need (x1||!x1) (.bnd (x1||x3) (λ(x4:Bool)=>.leaf (.bool false x4) ([]))))))))))))))))))))))))))):=by kernel_rfl
theorem Qba:JG (mkS prog W4) (Qi f6) 8 j8 (λx_=>(hnd (mkS prog W4) 1)):=by
 refine⟨?_⟩;rintro⟨x,⟨c,⟨s,⟨⟩⟩⟩⟩ hp G h1 h2;exact Qw (Vq QHL) 1 G _ h1
theorem QaY:JF (mkS prog W4) f6 8 j8 (λx_=>(hnd (mkS prog W4) 1)):=by
 refine⟨?_⟩;rintro⟨x,⟨c,⟨s,⟨⟩⟩⟩⟩ hp;refine⟨⟨rfl,by simp[j8],rfl⟩,⟨?_⟩⟩
 rw[QTK x c s];simp only[j8]at hp;have end_:∀{z:Bool} {b:Bool},Wg x c s=b->(QE.leaf (AV.bool z b) []).den (VQ 8 (j8 (x,c,s,())).2.1 (j8 (x,c,s,())).2.2):=λh=>KT h.symm rfl
 have sm:decide ((x.d.ps.n:Int)>14)=false->decide ((x.sK.n:Int)>18)=false->decide ((x.hang.n:Int)>18)=false->(decide (x.d.ps.n<=x.d.ps.n)&&(decide (x.sK.n<=x.sK.n)&&(decide (x.hang.n<=x.hang.n)&&true))&&decide (x.d.ps.n<=(1000:Nat)/\x.sK.n<=(1000:Nat)/\x.hang.n<=(1000:Nat)))=true:=by
  intro h1 h2 h3;simp only[decide_eq_false_iff_not]at h1 h2 h3;simp;omega
 unfold Wg at end_;generalize (decide (x.d.ps.n<=x.d.ps.n)&&(decide (x.sK.n<=x.sK.n)&&(decide (x.hang.n<=x.hang.n)&&true))&&decide (x.d.ps.n<=(1000:Nat)/\x.sK.n<=(1000:Nat)/\x.hang.n<=(1000:Nat)))=w at sm ⊢;generalize decide ((x.d.ps.n:Int)>14)=b0 at sm end_ ⊢;generalize decide ((x.sK.n:Int)>18)=b1 at sm end_ ⊢;generalize decide ((x.hang.n:Int)>18)=b2 at sm end_ ⊢;generalize decide ((x.d.ps.n:Int)>c)=b3 at end_ ⊢;generalize decide ((x.sK.n:Int)>s)=b4 at end_ ⊢;generalize x.ok=b5 at end_ ⊢
 repeat' first|refine QF rfl ?_|refine QF (by clear end_;grind) ?_|refine K6 λz hz=>?_
 refine end_ ?_;clear end_ sm;subst_vars;cases b0<;>cases b1<;>cases b2<;>cases b3<;>cases b4<;>cases b5<;>rfl
theorem Qc7:QO prog 6 QMx:=
 JI (Vq QHL) func6 (by kernel_rfl) (by kernel_rfl) (by decide) Qba QaY
def XV:Tab:=Qh W4 6 QMx
theorem QEG:QZ XV:=QHL.add Qc7
def WE:WF (Puz×QQ×QB×Unit):=λ|(d,s,x,_)=>(decide ((0<=x.cell/\x.cell<d.ps.n)/\(0<=x.turn/\x.turn<=3)/\d.ps.n<=1000),.bool false (K5 d s x.cell.toNat x.turn.toNat),[])
def QPe:FC:=wFC WE
theorem QWv(c:Int):KI (mkE prog XV) (hnd (mkE prog XV) 6) f61 (QW.vals 0 ((d,s,⟨c,0⟩,()):Puz×QQ×QB×Unit)) (QW.blks 0 ((d,s,⟨c,0⟩,()):Puz × QQ×QB×Unit)) 8 = .need (decide ((0:Int)<=(i64.wrap ((4:Int)-0)).tmod (4:Int)/\(i64.wrap ((4:Int)-0)).tmod (4:Int)<4)) (.need (decide ((0:Int)<=c/\c<(d.ps.n:Int))&&decide (d.ps.n<=d.ps.n)) (.need (decide (c.toNat<d.ps.n)) (.need (true) (.br (!isS s.up (d.ps.get c.toNat).up) (.leaf (.bool true false) ([])) (.need (decide ((0:Int)<=(i64.wrap ((5:Int)-0)).tmod (4:Int)/\(i64.wrap ((5:Int)-0)).tmod (4:Int)<4)) (.need (decide ((0:Int)<=c/\c<(d.ps.n:Int))&&decide (d.ps.n<=d.ps.n)) (.need (decide (c.toNat<d.ps.n)) (.need (true) (.br (!isS s.right (d.ps.get c.toNat).right) (.leaf (.bool true false) ([])) (.need (decide ((0:Int)<=(i64.wrap ((6:Int)-0)).tmod (4:Int)/\(i64.wrap ((6:Int)-0)).tmod (4:Int)<4)) (.need (decide ((0:Int)<=c/\c<(d.ps.n:Int))&&decide (d.ps.n<=d.ps.n)) (.need (decide (c.toNat<d.ps.n)) (.need (true) (.br (!isS s.down (d.ps.get c.toNat).down) (.leaf (.bool true false) ([])) (.need (decide ((0:Int)<=(i64.wrap ((7:Int)-0)).tmod (4:Int)/\(i64.wrap ((7:Int)-0)).tmod (4:Int)<4)) (.need (decide ((0:Int)<=c/\c<(d.ps.n:Int))&&decide (d.ps.n<=d.ps.n)) (.need (decide (c.toNat<d.ps.n)) (.need (true) (.br (!isS s.left (d.ps.get c.toNat).left) (.leaf (.bool true false) ([])) (.leaf (.bool true true) ([]))))))))))))))))))))):=by kernel_rfl
theorem Qez(c:Int):KI (mkE prog XV) (hnd (mkE prog XV) 6) f61 (QW.vals 0 ((d,s,⟨c,1⟩,()):Puz×QQ×QB×Unit)) (QW.blks 0 ((d,s,⟨c,1⟩,()):Puz × QQ×QB×Unit)) 8 = .need (decide ((0:Int)<=(i64.wrap ((4:Int)-1)).tmod (4:Int)/\(i64.wrap ((4:Int)-1)).tmod (4:Int)<4)) (.need (decide ((0:Int)<=c/\c<(d.ps.n:Int))&&decide (d.ps.n<=d.ps.n)) (.need (decide (c.toNat<d.ps.n)) (.need (true) (.br (!isS s.left (d.ps.get c.toNat).up) (.leaf (.bool true false) ([])) (.need (decide ((0:Int)<=(i64.wrap ((5:Int)-1)).tmod (4:Int)/\(i64.wrap ((5:Int)-1)).tmod (4:Int)<4)) (.need (decide ((0:Int)<=c/\c<(d.ps.n:Int))&&decide (d.ps.n<=d.ps.n)) (.need (decide (c.toNat<d.ps.n)) (.need (true) (.br (!isS s.up (d.ps.get c.toNat).right) (.leaf (.bool true false) ([])) (.need (decide ((0:Int)<=(i64.wrap ((6:Int)-1)).tmod (4:Int)/\(i64.wrap ((6:Int)-1)).tmod (4:Int)<4)) (.need (decide ((0:Int)<=c/\c<(d.ps.n:Int))&&decide (d.ps.n<=d.ps.n)) (.need (decide (c.toNat<d.ps.n)) (.need (true) (.br (!isS s.right (d.ps.get c.toNat).down) (.leaf (.bool true false) ([])) (.need (decide ((0:Int)<=(i64.wrap ((7:Int)-1)).tmod (4:Int)/\(i64.wrap ((7:Int)-1)).tmod (4:Int)<4)) (.need (decide ((0:Int)<=c/\c<(d.ps.n:Int))&&decide (d.ps.n<=d.ps.n)) (.need (decide (c.toNat<d.ps.n)) (.need (true) (.br (!isS s.down (d.ps.get c.toNat).left) (.leaf (.bool true false) ([])) (.leaf (.bool true true) ([]))))))))))))))))))))):=by kernel_rfl
theorem QaW(c:Int):KI (mkE prog XV) (hnd (mkE prog XV) 6) f61 (QW.vals 0 ((d,s,⟨c,2⟩,()):Puz×QQ×QB×Unit)) (QW.blks 0 ((d,s,⟨c,2⟩,()):Puz × QQ×QB×Unit)) 8 = .need (decide ((0:Int)<=(i64.wrap ((4:Int)-2)).tmod (4:Int)/\(i64.wrap ((4:Int)-2)).tmod (4:Int)<4)) (.need (decide ((0:Int)<=c/\c<(d.ps.n:Int))&&decide (d.ps.n<=d.ps.n)) (.need (decide (c.toNat<d.ps.n)) (.need (true) (.br (!isS s.down (d.ps.get c.toNat).up) (.leaf (.bool true false) ([])) (.need (decide ((0:Int)<=(i64.wrap ((5:Int)-2)).tmod (4:Int)/\(i64.wrap ((5:Int)-2)).tmod (4:Int)<4)) (.need (decide ((0:Int)<=c/\c<(d.ps.n:Int))&&decide (d.ps.n<=d.ps.n)) (.need (decide (c.toNat<d.ps.n)) (.need (true) (.br (!isS s.left (d.ps.get c.toNat).right) (.leaf (.bool true false) ([])) (.need (decide ((0:Int)<=(i64.wrap ((6:Int)-2)).tmod (4:Int)/\(i64.wrap ((6:Int)-2)).tmod (4:Int)<4)) (.need (decide ((0:Int)<=c/\c<(d.ps.n:Int))&&decide (d.ps.n<=d.ps.n)) (.need (decide (c.toNat<d.ps.n)) (.need (true) (.br (!isS s.up (d.ps.get c.toNat).down) (.leaf (.bool true false) ([])) (.need (decide ((0:Int)<=(i64.wrap ((7:Int)-2)).tmod (4:Int)/\(i64.wrap ((7:Int)-2)).tmod (4:Int)<4)) (.need (decide ((0:Int)<=c/\c<(d.ps.n:Int))&&decide (d.ps.n<=d.ps.n)) (.need (decide (c.toNat<d.ps.n)) (.need (true) (.br (!isS s.right (d.ps.get c.toNat).left) (.leaf (.bool true false) ([])) (.leaf (.bool true true) ([]))))))))))))))))))))):=by kernel_rfl
theorem QXb(c:Int):KI (mkE prog XV) (hnd (mkE prog XV) 6) f61 (QW.vals 0 ((d,s,⟨c,3⟩,()):Puz×QQ×QB×Unit)) (QW.blks 0 ((d,s,⟨c,3⟩,()):Puz × QQ×QB×Unit)) 8 = .need (decide ((0:Int)<=(i64.wrap ((4:Int)-3)).tmod (4:Int)/\(i64.wrap ((4:Int)-3)).tmod (4:Int)<4)) (.need (decide ((0:Int)<=c/\c<(d.ps.n:Int))&&decide (d.ps.n<=d.ps.n)) (.need (decide (c.toNat<d.ps.n)) (.need (true) (.br (!isS s.right (d.ps.get c.toNat).up) (.leaf (.bool true false) ([])) (.need (decide ((0:Int)<=(i64.wrap ((5:Int)-3)).tmod (4:Int)/\(i64.wrap ((5:Int)-3)).tmod (4:Int)<4)) (.need (decide ((0:Int)<=c/\c<(d.ps.n:Int))&&decide (d.ps.n<=d.ps.n)) (.need (decide (c.toNat<d.ps.n)) (.need (true) (.br (!isS s.down (d.ps.get c.toNat).right) (.leaf (.bool true false) ([])) (.need (decide ((0:Int)<=(i64.wrap ((6:Int)-3)).tmod (4:Int)/\(i64.wrap ((6:Int)-3)).tmod (4:Int)<4)) (.need (decide ((0:Int)<=c/\c<(d.ps.n:Int))&&decide (d.ps.n<=d.ps.n)) (.need (decide (c.toNat<d.ps.n)) (.need (true) (.br (!isS s.left (d.ps.get c.toNat).down) (.leaf (.bool true false) ([])) (.need (decide ((0:Int)<=(i64.wrap ((7:Int)-3)).tmod (4:Int)/\(i64.wrap ((7:Int)-3)).tmod (4:Int)<4)) (.need (decide ((0:Int)<=c/\c<(d.ps.n:Int))&&decide (d.ps.n<=d.ps.n)) (.need (decide (c.toNat<d.ps.n)) (.need (true) (.br (!isS s.up (d.ps.get c.toNat).left) (.leaf (.bool true false) ([])) (.leaf (.bool true true) ([]))))))))))))))))))))):=by kernel_rfl
theorem GX(c:Nat):K5 d s c (Int.toNat 0)=(isS s.up (d.ps.get c).up&&(isS s.right (d.ps.get c).right&&(isS s.down (d.ps.get c).down&&isS s.left (d.ps.get c).left))):=rfl
theorem GU(c:Nat):K5 d s c (Int.toNat 1)=(isS s.left (d.ps.get c).up&&(isS s.up (d.ps.get c).right&&(isS s.right (d.ps.get c).down&&isS s.down (d.ps.get c).left))):=rfl
theorem QA1(c:Nat):K5 d s c (Int.toNat 2)=(isS s.down (d.ps.get c).up&&(isS s.left (d.ps.get c).right&&(isS s.up (d.ps.get c).down&&isS s.right (d.ps.get c).left))):=rfl
theorem G6(c:Nat):K5 d s c (Int.toNat 3)=(isS s.right (d.ps.get c).up&&(isS s.down (d.ps.get c).right&&(isS s.left (d.ps.get c).down&&isS s.up (d.ps.get c).left))):=rfl
theorem QCH{d:Puz}{s:QQ}{x:QB}(h:XU (VQ 8 (WE (d,s,x,())).2.1 (WE (d,s,x,())).2.2) (KI (mkE prog XV) (hnd (mkE prog XV) 6) f61 (QW.vals 0 ((d,s,x,()):Puz×QQ×QB×Unit)) (QW.blks 0 ((d,s,x,()):Puz×QQ×QB×Unit)) 8)):QO prog 61 (wFC (JN WE (d,s,x,()))):=
 Vt (c:=Qi f61) (E:=mkE prog XV) (H:=hnd (mkE prog XV) 6) (QL QEG) func61 (by kernel_rfl) (by kernel_rfl) (N:=8) (by decide) (d,s,x,()) (λG h1 _=>Qw (QL QEG) 6 G _ h1) ⟨rfl,by simp[WE],rfl⟩ h
theorem Qc0(x:QB)(hx:(WE (d,s,x,())).1=true):QO prog 61 (wFC (JN WE (d,s,x,()))):=by
 obtain⟨⟨c0,c1⟩,⟨t0,t1⟩,hn⟩:=qdt hx;obtain⟨c,t⟩:=x;simp only at c0 c1 t0 t1;have no:∀{z b:Bool} {t:Int},K5 d s c.toNat t.toNat=b->(QE.leaf (AV.bool z b) []).den (VQ 8 (WE (d,s,⟨c,t⟩,())).2.1 (WE (d,s,⟨c,t⟩,())).2.2):=λh=>KT h.symm rfl;have ht:t=0∨t=1∨t=2∨t=3:=by omega
 rcases ht with rfl|rfl|rfl|rfl
 .refine QCH (Qp (QWv d s c) ?_);refine QF (by first|rfl|(simp;done)|(simp;omega)|omega|grind) ?_
  iterate 2 refine QF (by first|rfl|(simp;done)|(simp;omega)|omega|grind) ?_
  refine QF rfl ?_;refine QH ?_ ?_<;>intro b0
  .exact no ((GX ..).trans (by simp only[Bool.not_eq_true',Bool.not_eq_false']at b0;rw[b0];rfl))
  .refine QF (by first|rfl|(simp;done)|(simp;omega)|omega|grind) ?_
   iterate 2 refine QF (by first|rfl|(simp;done)|(simp;omega)|omega|grind) ?_
   refine QF rfl ?_;refine QH ?_ ?_<;>intro b1
   .exact no ((GX ..).trans (by simp only[Bool.not_eq_true',Bool.not_eq_false']at b0 b1;rw[b0,b1];rfl))
   .refine QF (by first|rfl|(simp;done)|(simp;omega)|omega|grind) ?_
    iterate 2 refine QF (by first|rfl|(simp;done)|(simp;omega)|omega|grind) ?_
    refine QF rfl ?_;refine QH ?_ ?_<;>intro b2
    .exact no ((GX ..).trans (by simp only[Bool.not_eq_true',Bool.not_eq_false']at b0 b1 b2;rw[b0,b1,b2];rfl))
    .refine QF (by first|rfl|(simp;done)|(simp;omega)|omega|grind) ?_
     iterate 2 refine QF (by first|rfl|(simp;done)|(simp;omega)|omega|grind) ?_
     refine QF rfl ?_;refine QH ?_ ?_<;>intro b3
     .exact no ((GX ..).trans (by simp only[Bool.not_eq_true',Bool.not_eq_false']at b0 b1 b2 b3;rw[b0,b1,b2,b3];rfl))
     .exact no ((GX ..).trans (by simp only[Bool.not_eq_false']at b0 b1 b2 b3;rw[b0,b1,b2,b3];rfl))
 .refine QCH (Qp (Qez d s c) ?_);refine QF (by first|rfl|(simp;done)|(simp;omega)|omega|grind) ?_
  iterate 2 refine QF (by first|rfl|(simp;done)|(simp;omega)|omega|grind) ?_
  refine QF rfl ?_;refine QH ?_ ?_<;>intro b0
  .exact no ((GU ..).trans (by simp only[Bool.not_eq_true',Bool.not_eq_false']at b0;rw[b0];rfl))
  .refine QF (by first|rfl|(simp;done)|(simp;omega)|omega|grind) ?_
   iterate 2 refine QF (by first|rfl|(simp;done)|(simp;omega)|omega|grind) ?_
   refine QF rfl ?_;refine QH ?_ ?_<;>intro b1
   .exact no ((GU ..).trans (by simp only[Bool.not_eq_true',Bool.not_eq_false']at b0 b1;rw[b0,b1];rfl))
   .refine QF (by first|rfl|(simp;done)|(simp;omega)|omega|grind) ?_
    iterate 2 refine QF (by first|rfl|(simp;done)|(simp;omega)|omega|grind) ?_
    refine QF rfl ?_;refine QH ?_ ?_<;>intro b2
    .exact no ((GU ..).trans (by simp only[Bool.not_eq_true',Bool.not_eq_false']at b0 b1 b2;rw[b0,b1,b2];rfl))
    .refine QF (by first|rfl|(simp;done)|(simp;omega)|omega|grind) ?_
     iterate 2 refine QF (by first|rfl|(simp;done)|(simp;omega)|omega|grind) ?_
     refine QF rfl ?_;refine QH ?_ ?_<;>intro b3
     .exact no ((GU ..).trans (by simp only[Bool.not_eq_true',Bool.not_eq_false']at b0 b1 b2 b3;rw[b0,b1,b2,b3];rfl))
     .exact no ((GU ..).trans (by simp only[Bool.not_eq_false']at b0 b1 b2 b3;rw[b0,b1,b2,b3];rfl))
 .refine QCH (Qp (QaW d s c) ?_);refine QF (by first|rfl|(simp;done)|(simp;omega)|omega|grind) ?_
  iterate 2 refine QF (by first|rfl|(simp;done)|(simp;omega)|omega|grind) ?_
  refine QF rfl ?_;refine QH ?_ ?_<;>intro b0
  .exact no ((QA1 ..).trans (by simp only[Bool.not_eq_true',Bool.not_eq_false']at b0;rw[b0];rfl))
  .refine QF (by first|rfl|(simp;done)|(simp;omega)|omega|grind) ?_
   iterate 2 refine QF (by first|rfl|(simp;done)|(simp;omega)|omega|grind) ?_
   refine QF rfl ?_;refine QH ?_ ?_<;>intro b1
   .exact no ((QA1 ..).trans (by simp only[Bool.not_eq_true',Bool.not_eq_false']at b0 b1;rw[b0,b1];rfl))
   .refine QF (by first|rfl|(simp;done)|(simp;omega)|omega|grind) ?_
    iterate 2 refine QF (by first|rfl|(simp;done)|(simp;omega)|omega|grind) ?_
    refine QF rfl ?_;refine QH ?_ ?_<;>intro b2
    .exact no ((QA1 ..).trans (by simp only[Bool.not_eq_true',Bool.not_eq_false']at b0 b1 b2;rw[b0,b1,b2];rfl))
    .refine QF (by first|rfl|(simp;done)|(simp;omega)|omega|grind) ?_
     iterate 2 refine QF (by first|rfl|(simp;done)|(simp;omega)|omega|grind) ?_
     refine QF rfl ?_;refine QH ?_ ?_<;>intro b3
     .exact no ((QA1 ..).trans (by simp only[Bool.not_eq_true',Bool.not_eq_false']at b0 b1 b2 b3;rw[b0,b1,b2,b3];rfl))
     .exact no ((QA1 ..).trans (by simp only[Bool.not_eq_false']at b0 b1 b2 b3;rw[b0,b1,b2,b3];rfl))
 .refine QCH (Qp (QXb d s c) ?_);refine QF (by first|rfl|(simp;done)|(simp;omega)|omega|grind) ?_
  iterate 2 refine QF (by first|rfl|(simp;done)|(simp;omega)|omega|grind) ?_
  refine QF rfl ?_;refine QH ?_ ?_<;>intro b0
  .exact no ((G6 ..).trans (by simp only[Bool.not_eq_true',Bool.not_eq_false']at b0;rw[b0];rfl))
  .refine QF (by first|rfl|(simp;done)|(simp;omega)|omega|grind) ?_
   iterate 2 refine QF (by first|rfl|(simp;done)|(simp;omega)|omega|grind) ?_
   refine QF rfl ?_;refine QH ?_ ?_<;>intro b1
   .exact no ((G6 ..).trans (by simp only[Bool.not_eq_true',Bool.not_eq_false']at b0 b1;rw[b0,b1];rfl))
   .refine QF (by first|rfl|(simp;done)|(simp;omega)|omega|grind) ?_
    iterate 2 refine QF (by first|rfl|(simp;done)|(simp;omega)|omega|grind) ?_
    refine QF rfl ?_;refine QH ?_ ?_<;>intro b2
    .exact no ((G6 ..).trans (by simp only[Bool.not_eq_true',Bool.not_eq_false']at b0 b1 b2;rw[b0,b1,b2];rfl))
    .refine QF (by first|rfl|(simp;done)|(simp;omega)|omega|grind) ?_
     iterate 2 refine QF (by first|rfl|(simp;done)|(simp;omega)|omega|grind) ?_
     refine QF rfl ?_;refine QH ?_ ?_<;>intro b3
     .exact no ((G6 ..).trans (by simp only[Bool.not_eq_true',Bool.not_eq_false']at b0 b1 b2 b3;rw[b0,b1,b2,b3];rfl))
     .exact no ((G6 ..).trans (by simp only[Bool.not_eq_false']at b0 b1 b2 b3;rw[b0,b1,b2,b3];rfl))
theorem QUl:QO prog 61 QPe:=WL (by kernel_rfl) λ|(d,s,x,()),h=>Qc0 d s x h
def qE:Tab:=Qh XV 61 QPe
theorem QHm:QZ qE:=QEG.add QUl
def Xn(j:Jn)(a b:QB):Bool:=cond ((a.cell == -2)||(b.cell == -2)) (a.cell==b.cell) ((Qj d.wide d.high a.cell (qJ j a)==b.cell)&&((j.j+b.turn).tmod 4==jj (qJ j a)))
def jQ:WF (Puz×Jn×QB×QB×Unit):=λ|(d,(j,(a,(b,_))))=>(decide (((1<=d.wide/\d.wide<=100)/\(1<=d.high/\d.high<=100))/\((a.cell = -2∨0<=a.cell/\a.cell<=100)/\(b.cell = -2∨0<=b.cell/\b.cell<=100))/\((0<=j.i/\j.i<=3)/\(0<=j.j/\j.j<=3))/\((0<=a.turn/\a.turn<=3)/\(0<=b.turn/\b.turn<=3))/\d.ps.n<=1000),.bool false (Xn d j a b),[])
def QPs:FC:=wFC jQ
theorem QcU(j:Jn)(a:QB)(b:QB):KI (mkE prog qE) (hnd (mkE prog qE) 3) f62 (QW.vals 0 ((d,j,a,b,()):Puz×Jn×QB×QB×Unit)) (QW.blks 0 ((d,j,a,b,()):Puz×Jn×QB×QB×Unit)) 8=QE.br (a.cell==(-2:Int)) (QE.leaf (AV.bool false (a.cell==b.cell)) ([])) (QE.br (b.cell==(-2:Int)) (QE.leaf (AV.bool false (a.cell==b.cell)) ([])) (QE.need (decide (d.ps.n<=d.ps.n)&&(true&&(true&&true))&&decide (((1:Int)<=d.wide/\d.wide<=(100:Int))/\((1:Int)<=d.high/\d.high<=(100:Int))/\(0:Int)<=a.cell/\a.cell<=(100:Int))) (QE.br (Qj d.wide d.high a.cell ((i64.wrap (j.i+a.turn)).tmod (4:Int))==b.cell) (QE.leaf (AV.bool false ((i64.wrap (j.j+b.turn)).tmod (4:Int)==(i64.wrap ((i64.wrap (j.i+a.turn)).tmod (4:Int)+(2:Int))).tmod (4:Int))) ([])) (QE.leaf (AV.bool true false) ([]))))):=by kernel_rfl
theorem QYp:JG (mkE prog qE) (Qi f62) 8 jQ (λx_=>(hnd (mkE prog qE) 3)):=by
 refine⟨?_⟩;rintro⟨d,⟨j,⟨a,⟨b,⟨⟩⟩⟩⟩⟩ hp G h1 h2;exact Qw (QL QHm) 3 G _ h1
theorem QfN:JF (mkE prog qE) f62 8 jQ (λx_=>(hnd (mkE prog qE) 3)):=by
 refine⟨?_⟩;rintro⟨d,⟨j,⟨a,⟨b,⟨⟩⟩⟩⟩⟩ hp;refine⟨⟨rfl,by simp[jQ],rfl⟩,⟨?_⟩⟩
 rw[QcU d j a b];simp only[jQ]at hp;obtain⟨⟨hw,hh⟩,⟨ha,hb⟩,⟨hi,hj⟩,⟨ta,tb⟩,hn⟩:=qdt hp;have no:∀{z b':Bool},Xn d j a b=b'->(QE.leaf (AV.bool z b') []).den (VQ 8 (jQ (d,j,a,b,())).2.1 (jQ (d,j,a,b,())).2.2):=λh=>KT h.symm rfl;have w1:i64.wrap (j.i+a.turn)=j.i+a.turn:=w64 (by omega) (by omega)
 have w2:i64.wrap (j.j+b.turn)=j.j+b.turn:=w64 (by omega) (by omega)
 have m1:=QLO (n:=j.i+a.turn) (by omega)
 have w3:i64.wrap ((j.i+a.turn).tmod 4+2)=(j.i+a.turn).tmod 4+2:=w64 (by omega) (by omega)
 rw[w1,w2,w3];refine QH ?_ ?_<;>intro b0
 .exact no (by unfold Xn;rw[b0];rfl)
 .refine QH ?_ ?_<;>intro b1
  .exact no (by unfold Xn;rw[b1,Bool.or_true];rfl)
  .refine QF (by simp at b0 b1 ⊢;omega) ?_
   refine QH ?_ ?_<;>intro b2
   .exact no (by unfold Xn;rw[b0,b1];simp only[qJ,jj,b2];rfl)
   .exact no (by unfold Xn;rw[b0,b1];simp only[qJ,jj,b2];rfl)
theorem QWd:QO prog 62 QPs:=
 JI (QL QHm) func62 (by kernel_rfl) (by kernel_rfl) (by decide) QYp QfN
def J1:Tab:=Qh qE 62 QPs
theorem WS:QZ J1:=QHm.add QWd
def rtB:List (Nat×Blk):=(8,.cells 0 31 (K2 0 x))::(JC 0 x++KD.blk 3 l)
def rtJ:JSt:=⟨133,[(1,.slz 3 0 l.n (.of 0)),(2,.ptr 8 0 0),(5,.int false .i64 al),(6,.int false .i64 tk),(7,.int false .i64 k)],rtB x l,96⟩
def rtE:JSt:=⟨133,[(1,.slz 3 0 l.n (.of 0)),(2,.ptr 8 0 0),(5,.int false .i64 al),(6,.int false .i64 tk)],rtB x l,96⟩
def X3:JSt:=⟨133,[(4,.bool false false)],[],96⟩
def QL4:Ex->List Nat
 | .normal=>[1,2,5,6,7]
 | .exit _=>[1,2,5,6]
 | .ret=>[4]
def Gk(k i:Nat):JSt:=⟨133,[(1,.slz 3 0 l.n (.of 0)),(2,.ptr 8 0 0),(5,.int false .i64 al),(6,.int false .i64 tk),(7,.int false .i64 k),(8,.int false .i64 i)],rtB x l,96⟩
def QDn:JSt:=⟨133,[(1,.slz 3 0 l.n (.of 0)),(2,.ptr 8 0 0),(5,.int false .i64 al),(6,.int false .i64 tk),(7,.int false .i64 k)],rtB x l,96⟩
def QMY:Ex->List Nat
 | .normal=>[1,2,5,6,7,8]
 | .exit _=>[1,2,5,6,7]
 | .ret=>[4]
def QAH:JSt:=⟨133,[(1,.slz 3 0 l.n (.of 0)),(2,.ptr 8 0 0),(5,.int false .i64 al),(6,.int false .i64 tk),(9,.int false .i64 k)],rtB x l,96⟩
def QR4:Ex->List Nat
 | .normal=>[1,2,5,6,9]
 | .exit _=>[1,2,5,6]
 | .ret=>[4]
def eqC(k i:Nat):Bool:=(l.get i).cell==(l.get k).cell
noncomputable abbrev QQT:Nat×Blk:=
  (8,.cells 0 31 [vi x.d.pK.length,vi x.d.pK.aK,vi x.d.pK.oK,vi x.d.pK.dK.lo,vi x.d.pK.dK.hi,
  vi x.d.wide,vi x.d.high,.bool false x.d.turn,.slz 0 0 x.d.ps.n cO,.slz 1 0 x.sK.n cO,.slz 2 0 x.hang.n cO,.int false .i64
  x.lost,vi x.fK])
abbrev QBY:List CK:=
  [.int .i64,.int .i64,.int .i64,.int .i64,.int .i64,.int .i64,.int .i64,.int .i64,.int .i64,.int .i64,.int .i64,.int .i64,.int .i64,.int .i64,.int .i64,.int .i64,.int
  .i64,.int .i64,.int .i64,.int .i64,.int .i64,.int .i64,.int .i64,.int .i64,.int .i64,.int .i64,.int .i64,.int .i64]
noncomputable abbrev QFy(i:Nat)(l:Rw QB)(x:QD):List (Nat×Blk):=
  [(3,.frz kB l.n λi=>QA.enc (l.get i)),(QQT x),(0,.frz QBY x.d.ps.n λi=>QA.enc (x.d.ps.get i)),(1,.frz QBY x.sK.n λi=>QA.enc
  (x.sK.get i)),(2,.frz [.int .i64,.int .i64,.int .i64,.int .i64] x.hang.n λi=>QA.enc (x.hang.get i))]
theorem Qbp(k i:Nat)(g:Nat->Value):exec (mkE prog J1) (hnd (mkE prog J1) 3) (Kl (QT f26 0)) (JSt.inst (Gk x l al tk k i) g) (KG [] QMY) = .br (decide ((i:Int)<(k:Int))) (.need (decide ((0:Int)<=(i:Int)/\(i:Int)<(l.n:Int))&&decide (l.n<=l.n)) (.need (decide (i<l.n)) (.need (decide ((0:Int)<=(k:Int)/\(k:Int)<(l.n:Int))&&decide (l.n<=l.n)) (.need (decide (k<l.n)) (.br ((l.get i).cell==(l.get k).cell) (.leaf (.tup [.nili,.ptr 133 0 0,.bool true false]) ([])) (.leaf (.tup [.nilp,.ptr 133 0 0, .slz 3 0 l.n cO,.ptr 8 0 0,vi al,vi tk,vi (k:Int),vi (i64.wrap ((i:Int)+1))]) ((QFy i l x)))))))) (.leaf (.tup [.ptr 2 0 0,.ptr 133 0 0,.slz 3 0 l.n cO,.ptr 8 0 0,vi al,vi tk,vi (k:Int)]) ((QFy i l x))):=by kernel_rfl
noncomputable abbrev ZF(x:QD):List (Nat×Blk):=
  [(3,.frz kB l.n λi=>QA.enc (l.get i)),(QQT x),(0,.frz QBY x.d.ps.n λi=>QA.enc (x.d.ps.get i)),(1,.frz QBY x.sK.n λi=>QA.enc
  (x.sK.get i)),(2,.frz [.int .i64,.int .i64,.int .i64,.int .i64] x.hang.n λi=>QA.enc (x.hang.get i))]
theorem QcG(g:Nat->Value):exec (mkE prog J1) (hnd (mkE prog J1) 3) (QT f26 1) (JSt.inst (QAH x l al tk k) g) (KG [] QR4) = .br (decide ((k:Int)<(x.hang.n:Int))) (.need (decide ((0:Int)<=(k:Int)/\(k:Int)<(x.hang.n:Int))&&decide (x.hang.n<=x.hang.n)) (.need (decide (k<x.hang.n)) (.need (decide ((0:Int)<=(x.hang.get k).a/\(x.hang.get k).a<(l.n:Int))&&decide (l.n<=l.n)) (.need (decide ((x.hang.get k).a.toNat<l.n)) (.need (decide ((0:Int)<=(x.hang.get k).b/\(x.hang.get k).b<(l.n:Int))&&decide (l.n<=l.n)) (.need (decide ((x.hang.get k).b.toNat<l.n)) (.need (decide (x.d.ps.n<=x.d.ps.n)&&(true&&(true&&(true&&true)))&&decide ((((1:Int)<=x.d.wide/\x.d.wide<=100)/\(1:Int)<=x.d.high/\x.d.high<=100)/\(((l.get (x.hang.get k).a.toNat).cell = -2∨(0:Int)<=(l.get (x.hang.get k).a.toNat).cell/\(l.get (x.hang.get k).a.toNat).cell<=100)/\((l.get (x.hang.get k).b.toNat).cell = -2∨(0:Int)<=(l.get (x.hang.get k).b.toNat).cell/\(l.get (x.hang.get k).b.toNat).cell<=100))/\(((0:Int)<=(x.hang.get k).i/\(x.hang.get k).i<=3)/\(0:Int)<=(x.hang.get k).j/\(x.hang.get k).j<=3)/\(((0:Int)<=(l.get (x.hang.get k).a.toNat).turn/\(l.get (x.hang.get k).a.toNat).turn<=3)/\(0:Int)<=(l.get (x.hang.get k).b.toNat).turn/\(l.get (x.hang.get k).b.toNat).turn<=3)/\x.d.ps.n<=1000)) (.br (!Xn x.d (x.hang.get k) (l.get (x.hang.get k).a.toNat) (l.get (x.hang.get k).b.toNat)) (.leaf (.tup [.nili,.ptr 133 0 0,.bool true false]) ([])) (.leaf (.tup [.nilp,.ptr 133 0 0,.slz 3 0 l.n cO,.ptr 8 0 0,vi al,vi tk,vi (i64.wrap ((k:Int)+1))]) ((ZF l x))))))))))) (.leaf (.tup [.ptr 4 0 0,.ptr 133 0 0,.slz 3 0 l.n cO,.ptr 8 0 0,vi al,vi tk]) ((ZF l x))):=by kernel_rfl
theorem QYY(al tk tk':Int)(q:Bool)(k:Nat)(g:Nat->Value):exec (mkS prog J1) { hnd (mkS prog J1) 3 with loop:=λ_=>Jp (k<l.n) (Q4 8 [] (Gk x l al tk' k 0) [(q=false,.ret,X3),(q=true,.exit 2, QDn x l al tk' k)]) } (QT f26 0) (JSt.inst (rtJ x l al tk k) g) (KG [] QL4) = .br (decide ((k:Int)<(l.n:Int))) (.need (decide ((0:Int)<=(k:Int)/\(k:Int)<(l.n:Int))&&decide (l.n<=l.n)) (.need (decide (k<l.n)) (.br ((l.get k).cell == -2) (.need (decide ((0:Int)<=(k:Int)/\(k:Int)<(l.n:Int))&&decide (l.n<=l.n)) (.need (decide (k<l.n)) (.br ((l.get k).turn != 0) (.leaf (.tup [.nili,.ptr 133 0 0,.bool true false]) ([])) (.leaf (.tup [.nilp,.ptr 133 0 0,.slz 3 0 l.n cO,.ptr 8 0 0,vi (i64.wrap (al+1)),vi tk,vi (i64.wrap ((k:Int)+1))]) ((ZF l x)))))) (.need (decide ((0:Int)<=(k:Int)/\(k:Int)<(l.n:Int))&&decide (l.n<=l.n)) (.need (decide (k<l.n)) (.need (true) (.need (!!!Qe (l.get k).cell (0:Int) (i64.wrap ((x.d.ps.n:Int)-1))||decide ((0:Int)<=(k:Int)/\(k:Int)<(l.n:Int))&&decide (l.n<=l.n)&&(!!Qe (l.get k).cell (0:Int) (i64.wrap ((x.d.ps.n:Int)-1))&&!!Qe (l.get k).cell (0:Int) (i64.wrap ((x.d.ps.n:Int)-1)))) (.need (!!!Qe (l.get k).cell (0:Int) (i64.wrap ((x.d.ps.n:Int)-1))||!!Qe (l.get k).cell (0:Int) (i64.wrap ((x.d.ps.n:Int)-1))) (.need (!!!Qe (l.get k).cell (0:Int) (i64.wrap ((x.d.ps.n:Int)-1))||decide (k<l.n)&&!!Qe (l.get k).cell (0:Int) (i64.wrap ((x.d.ps.n:Int)-1))) (.need (!!!Qe (l.get k).cell (0:Int) (i64.wrap ((x.d.ps.n:Int)-1))||true&&!!Qe (l.get k).cell (0:Int) (i64.wrap ((x.d.ps.n:Int)-1))) (.need (!!!Qe (l.get k).cell (0:Int) (i64.wrap ((x.d.ps.n:Int)-1))||!!Qe (l.get k).cell (0:Int) (i64.wrap ((x.d.ps.n:Int)-1))) (.need (!Qe (l.get k).cell (0:Int) (i64.wrap ((x.d.ps.n:Int)-1))||!!Qe (l.get k).cell (0:Int) (i64.wrap ((x.d.ps.n:Int)-1))) (.bnd (!Qe (l.get k).cell (0:Int) (i64.wrap ((x.d.ps.n:Int)-1))||!Qe (l.get k).turn (0:Int) (3:Int)) (λ(x0:Bool)=>.need (!!x0||!x0) (.need (!!x0||!x0) (.need (!!x0||decide ((0:Int)<=(k:Int)/\(k:Int)<(x.sK.n:Int))&&decide (x.sK.n<=x.sK.n)&&(!x0&&!x0)) (.need (!!x0||decide (k<x.sK.n)&&!x0) (.need (!!x0||decide ((0:Int)<=(k:Int)/\(k:Int)<(l.n:Int))&&decide (l.n<=l.n)&&(!x0&&!x0)) (.need (!!x0||decide (k<l.n)&&!x0) (.need (!!x0||decide (x.d.ps.n<=x.d.ps.n)&&(true&&(true&&true))&&decide (((0:Int)<=(l.get k).cell/\(l.get k).cell<(x.d.ps.n:Int))/\((0:Int)<=(l.get k).turn/\(l.get k).turn<=3)/\x.d.ps.n<=1000)&&(!x0&&(!x0&&!x0))) (.need (!!x0||!x0) (.need (x0||!x0) (.bnd (x0||!K5 x.d (x.sK.get k) (l.get k).cell.toNat (l.get k).turn.toNat) (λ(x1:Bool)=>.br (x1) (.leaf (.tup [.nili,.ptr 133 0 0,.bool true false]) ([])) (.ak [k<l.n,0=0,l.n=l.n,cO=cO,0=0,0=0,al=al,i64.wrap (tk+1)=tk',(k:Int)=(k:Int),(0:Int)=0] (.ak (xq x) (.ak (xp x) (.ak [l.n<=l.n,QC 2 l.n (λi=>QA.enc (l.get i)) λi=>QA.enc (l.get i)] (.both (.asm (q=false) (.all (λ(g2:Nat->Value)=>.leaf (.tup [.nili,.ptr 133 0 0,.bool false false]) ([])))) (.asm (q=true) (.all (λ(g3:Nat->Value)=>.leaf (.tup [.nilp,.ptr 133 0 0,.slz 3 0 l.n cO,.ptr 8 0 0,vi al,vi tk',vi (i64.wrap ((k:Int)+1))]) ((ZF l x)))))))))))))))))))))))))))))))))) (.leaf (.tup [.ptr 0 0 0,.ptr 133 0 0,.slz 3 0 l.n cO,.ptr 8 0 0,vi al,vi tk]) ((ZF l x))):=by kernel_rfl
theorem QVG :QI 8 [AV.bool true false] ([]) X3=( some [false=false]):=by kernel_rfl
abbrev QA3:List Prop:=
  [0=0,l.n=l.n,cO=cO,0=0,0=0]
theorem QaO(k i i':Nat):QI 8 [.slz 3 0 l.n cO,.ptr 8 0 0,vi al,vi tk,vi (k:Int),vi (i64.wrap ((i:Int)+1))] ((QFy i l x)) (Gk x l al tk k i')=(some ((QA3 l)++[al=al,tk=tk,(k:Int)=(k:Int),i64.wrap ((i:Int)+1)=(i':Int),x.d.pK.length=x.d.pK.length, x.d.pK.aK=x.d.pK.aK,x.d.pK.oK=x.d.pK.oK,x.d.pK.dK.lo=x.d.pK.dK.lo,x.d.pK.dK.hi=x.d.pK.dK.hi,x.d.wide=x.d.wide,x.d.high=x.d.high, x.d.turn=x.d.turn,0=0,x.d.ps.n=x.d.ps.n,cO=cO,0=0,x.sK.n=x.sK.n,cO=cO,0=0,x.hang.n=x.hang.n,cO=cO,x.lost=x.lost,x.fK=x.fK,x.d.ps.n<=x.d.ps.n,QC 28 x.d.ps.n (λi=>QA.enc (x.d.ps.get i)) λi=>QA.enc (x.d.ps.get i),x.sK.n<=x.sK.n,QC 28 x.sK.n (λi=>QA.enc (x.sK.get i)) λi=>QA.enc (x.sK.get i),x.hang.n<=x.hang.n,QC 4 x.hang.n (λi=>QA.enc (x.hang.get i)) λi=>QA.enc (x.hang.get i),l.n<=l.n,QC 2 l.n (λi=>QA.enc (l.get i)) λi=>QA.enc (l.get i)])):=by kernel_rfl
abbrev QDk(x:QD):List Prop:=
  [x.d.pK.dK.lo=x.d.pK.dK.lo,x.d.pK.dK.hi=x.d.pK.dK.hi,x.d.wide=x.d.wide,x.d.high=x.d.high,x.d.turn=x.d.turn,0=0,x.d.ps.n=x.d.ps.n,cO =
  cO,0=0,x.sK.n=x.sK.n,cO=cO,0=0,x.hang.n=x.hang.n,cO=cO,x.lost=x.lost,x.fK=x.fK,x.d.ps.n<=x.d.ps.n,QC 28
  x.d.ps.n (λi=>QA.enc (x.d.ps.get i)) λi=>QA.enc (x.d.ps.get i),x.sK.n<=x.sK.n,QC 28 x.sK.n (λi=>QA.enc (x.sK.get i)) λi=>QA.enc
  (x.sK.get i),x.hang.n<=x.hang.n,QC 4 x.hang.n (λi=>QA.enc (x.hang.get i)) λi=>QA.enc (x.hang.get i),l.n<=l.n,QC 2 l.n (λi=>QA.enc (l.get i))
  λi=>QA.enc (l.get i)]
theorem QaA :QI 8 [.slz 3 0 l.n cO,.ptr 8 0 0,vi al,vi tk,vi (k:Int)] ((ZF l x)) (QDn x l al tk k)=(some ((QA3 l)++[al=al,tk=tk,(k:Int)=(k:Int),x.d.pK.length=x.d.pK.length,x.d.pK.aK=x.d.pK.aK,x.d.pK.oK=x.d.pK.oK]++(QDk l x))):=by kernel_rfl
theorem Qg2 :QI 8 [AV.bool true false] ([]) X3=( some [false=false]):=by kernel_rfl
abbrev QIR(k':Nat)(x:QD):List Prop:=
  [i64.wrap ((k:Int)+1)=(k':Int),x.d.pK.length=x.d.pK.length,x.d.pK.aK=x.d.pK.aK,x.d.pK.oK=x.d.pK.oK]
theorem QW4(k k':Nat):QI 8 [.slz 3 0 l.n cO,.ptr 8 0 0,vi al,vi tk,vi (i64.wrap ((k:Int)+1))] ((ZF l x)) (QAH x l al tk k')=(some ((QA3 l)++[al=al,tk=tk]++(QIR k k' x)++(QDk l x))):=by kernel_rfl
abbrev QKU(l:Rw QB)(tk:Int)(x:QD):List Prop:=
  [0=0,l.n=l.n,cO=cO,0=0,0=0,al=al,tk=tk,x.d.pK.length=x.d.pK.length,x.d.pK.aK=x.d.pK.aK,x.d.pK.oK=x.d.pK.oK,
  x.d.pK.dK.lo=x.d.pK.dK.lo,x.d.pK.dK.hi=x.d.pK.dK.hi,x.d.wide=x.d.wide,x.d.high=x.d.high,x.d.turn=x.d.turn,0=0,x.d.ps.n=x.d.ps.n,cO =
  cO,0=0,x.sK.n=x.sK.n,cO=cO,0=0,x.hang.n=x.hang.n,cO=cO,x.lost=x.lost,x.fK=x.fK,x.d.ps.n<=x.d.ps.n,QC 28
  x.d.ps.n (λi=>QA.enc (x.d.ps.get i)) λi=>QA.enc (x.d.ps.get i),x.sK.n<=x.sK.n,QC 28 x.sK.n (λi=>QA.enc (x.sK.get i)) λi=>QA.enc
  (x.sK.get i),x.hang.n<=x.hang.n,QC 4 x.hang.n (λi=>QA.enc (x.hang.get i)) λi=>QA.enc (x.hang.get i),l.n<=l.n,QC 2 l.n (λi=>QA.enc (l.get i))
  λi=>QA.enc (l.get i)]
theorem QTb :QI 8 [.slz 3 0 l.n cO,.ptr 8 0 0,vi al,vi tk] ((ZF l x)) (rtE x l al tk)=(some (QKU al l tk x)):=by kernel_rfl
theorem QWX :QI 8 [AV.bool true false] ([]) X3=( some [false=false]):=by kernel_rfl
theorem QWi(al tk al' tk2:Int)(k k':Nat):QI 8 [.slz 3 0 l.n cO,.ptr 8 0 0,vi (i64.wrap (al+1)),vi tk,vi (i64.wrap ((k:Int)+1))] ((ZF l x)) (rtJ x l al' tk2 k')=(some ((QA3 l)++[i64.wrap (al+1)=al',tk=tk2]++(QIR k k' x)++(QDk l x))):=by kernel_rfl
theorem Qgd :QI 8 [AV.bool true false] ([]) X3=( some [false=false]):=by kernel_rfl
theorem QdJ :QI 8 [AV.bool false false] ([]) X3=( some [false=false]):=by kernel_rfl
theorem Qb8(al al' tk' tk2:Int)(k k':Nat):QI 8 [.slz 3 0 l.n cO,.ptr 8 0 0,vi al,vi tk',vi (i64.wrap ((k:Int)+1))] ((ZF l x)) (rtJ x l al' tk2 k')=(some ((QA3 l)++[al=al',tk'=tk2]++(QIR k k' x)++(QDk l x))):=by kernel_rfl
theorem Qen :QI 8 [.slz 3 0 l.n cO,.ptr 8 0 0,vi al,vi tk] ((ZF l x)) (rtE x l al tk)=(some (QKU al l tk x)):=by kernel_rfl
def Jx:Bool:=cond ((l.get k).cell == -2) ((l.get k).turn != 0) (((!Qe (l.get k).cell 0 (i64.wrap ((x.d.ps.n:Int)-1)) || !Qe (l.get k).turn 0 3) || !K5 x.d (x.sK.get k) (l.get k).cell.toNat (l.get k).turn.toNat) || !(QN (eqC l k) k 0).isNone)
def alN(l:Rw QB):Nat->Int
 | 0=>0
 | k+1=>cond ((l.get k).cell == -2) (i64.wrap (alN l k+1)) (alN l k)
def tkN(l:Rw QB):Nat->Int
 | 0=>0
 | k+1=>cond ((l.get k).cell == -2) (tkN l k) (i64.wrap (tkN l k+1))
def Yi:Bool := !Xn x.d (x.hang.get k) (l.get (x.hang.get k).a.toNat) (l.get (x.hang.get k).b.toNat)
def QPl(k i:Nat)(e:Ex)(J:JSt):Prop:=(e = .ret/\(QN (eqC l k) (k-i) i).isNone=false/\J=X3)∨(e = .exit 2/\(QN (eqC l k) (k-i) i).isNone=true/\J=QDn x l al tk k)
theorem QZN(hk:k<l.n)(hl:l.n<=1000):Kk (Gk x l al tk k) (λi=>i<=k) (λi=>k-i) (QPl x l al tk k) 8 QMY [] (mkE prog J1) (λ_=>hnd (mkE prog J1) 3) (Kl (QT f26 0)):=by
 refine⟨λi g hi=>Qp (Qbp x l al tk k i g) ?_⟩;refine QH ?_ ?_<;>intro b0
 .refine QF (by simp at b0 ⊢;omega) ?_
  iterate 3 refine QF (by simp at b0 ⊢;omega) ?_
  refine QH ?_ ?_<;>intro b1
  .have h:i<k:=by have:=qdt b0;omega
   exact⟨_,.inl ⟨rfl,vV h b1,rfl⟩,rfl,rfl,_,QVG,⟨rfl,trivial⟩⟩
  .have h:i<k:=by have:=qdt b0;omega
   refine⟨i+1,h,by show k-(i+1)<k-i;omega,λe J r=>by unfold QPl at r ⊢;rw[za h b1];exact r,rfl,rfl,_,QaO ..,?_⟩
   repeat' first|with_reducible refine QK ?_ ?_|exact tv|exact KW h (by omega)|refine aI ?_ ?_
 .have h:k<=i:=by have:=qdf b0;omega
  refine⟨_,.inr ⟨rfl,Gn h,rfl⟩,rfl,rfl,_,QaA ..,?_⟩
  repeat' first|with_reducible refine QK ?_ ?_|exact tv|refine aI ?_ ?_
abbrev Qar(q:Bool):List (Prop×Ex×JSt):=[(q=false,.ret,X3),(q=true,.exit 2,QDn x l al tk k)]
abbrev rtI(P:Program)(x:QD)(l:Rw QB)(al tk:Int)(k:Nat)(q:Bool):Hnd:={ hnd (mkS P J1) 3 with loop:=λ_=>Jp (k<l.n) (Q4 8 [] (Gk x l al tk k 0) (Qar x l al tk k q)) }
def eqN:Bool:=(QN (eqC l k) k 0).isNone
theorem QTZ(hl:l.n<=1000)(G:Ctx)(hrd:G.rd=none)(hG:G.n=8):Q8 (mkS prog J1) G (rtI prog x l al tk k (eqN l k)) (QT f26 0):=by
 refine Kg (body:=Kl (QT f26 0)) (Vq WS) hrd (by kernel_rfl) ?_
 refine Vv λhk=>?_;refine YG (E:=mkE prog J1) rfl (Kr (n0:=8) (QL WS) (by omega) (λt ht=>Qw (QL WS) 3 G _ hrd) (λt ht=>(by decide:8<=96)) ?_ (QZN x l al tk k hk hl) (s0:=0) (Nat.zero_le _) ?_)
 .rintro s e J (⟨_,_,rfl⟩|⟨_,_,rfl⟩)<;>exact(by decide:8<=96)
 .rintro e J (⟨rfl,h,rfl⟩|⟨rfl,h,rfl⟩)
  .exact⟨_,qmc,h,rfl,rfl⟩
  .exact⟨_,List.mem_cons_of_mem _ qmc,h,rfl,rfl⟩
def rtR(e:Ex)(J:JSt):Prop:=(e = .ret/\(QN (Jx x l) (l.n-k) k).isNone=false/\J=X3)∨(e = .exit 0/\(QN (Jx x l) (l.n-k) k).isNone=true/\J=rtE x l (alN l l.n) (tkN l l.n))
set_option maxHeartbeats 1600000 in
theorem QWM(hn:x.d.ps.n<=1000)(hs:l.n=x.sK.n)(hl:l.n<=1000):Kk (λk=>rtJ x l (alN l k) (tkN l k) k) (λk=>k<=l.n) (λk=>l.n-k) (rtR x l) 8 QL4 [] (mkS prog J1) (λk=>rtI prog x l (alN l k) (i64.wrap (tkN l k+1)) k (eqN l k)) (QT f26 0):=by
 refine⟨λk g hk=>Qp (QYY x l (alN l k) (tkN l k) (i64.wrap (tkN l k+1)) (eqN l k) k g) ?_⟩;have hw:i64.wrap ((x.d.ps.n:Int)-1)=(x.d.ps.n:Int)-1:=w64 (by omega) (by omega)
 refine QH ?_ ?_<;>intro b0
 .refine QF (by first|rfl|(simp at b0 ⊢;omega)|grind) ?_
  refine QF (by first|rfl|(simp at b0 ⊢;omega)|grind) ?_
  refine QH ?_ ?_<;>intro b1
  .refine QF (by first|rfl|(simp at b0 ⊢;omega)|grind) ?_
   refine QF (by first|rfl|(simp at b0 ⊢;omega)|grind) ?_
   refine QH ?_ ?_<;>intro b2
   .have h:k<l.n:=by have:=qdt b0;omega
    exact⟨_,.inl ⟨rfl,vV h (by unfold Jx;rw[b1,cond_true];exact b2),rfl⟩,rfl,rfl,_,QWX,⟨rfl,trivial⟩⟩
   .have h:k<l.n:=by have:=qdt b0;omega
    have e1:i64.wrap (alN l k+1)=alN l (k+1):=by rw[alN,b1];rfl
    have e2:tkN l k=tkN l (k+1):=by rw[tkN,b1];rfl
    refine⟨k+1,h,by show l.n-(k+1)<l.n-k;omega,λe J r=>by unfold rtR at r ⊢;rw[za h (by unfold Jx;rw[b1,cond_true];exact b2)];exact r,rfl,rfl,_,QWi ..,?_⟩
    repeat' first|with_reducible refine QK ?_ ?_|exact tv|exact KW h (by omega)|exact e1|exact e2|refine aI ?_ ?_
  .refine QF (by first|rfl|(simp at b0 ⊢;omega)|grind) ?_
   iterate 2 refine QF (by first|rfl|(simp at b0 ⊢;omega)|grind) ?_
   refine QF ?_ ?_
   .have h:k<l.n:=by have:=qdt b0;omega
    rw[show(decide ((0:Int)<=(k:Int)/\(k:Int)<(l.n:Int))&&decide (l.n<=l.n))=true by simp;omega]
    cases Qe (l.get k).cell 0 (i64.wrap ((x.d.ps.n:Int)-1))<;>rfl
   refine QF (by first|rfl|(simp at b0 ⊢;omega)|grind) ?_
   refine QF ?_ ?_
   .have h:k<l.n:=by have:=qdt b0;omega
    rw[qde h];cases Qe (l.get k).cell 0 (i64.wrap ((x.d.ps.n:Int)-1))<;>rfl
   iterate 3 refine QF (by first|rfl|(simp at b0 ⊢;omega)|grind) ?_
   refine K6 λz0 y0=>?_;refine QF (by first|rfl|(simp at b0 ⊢;omega)|grind) ?_
   refine QF (by first|rfl|(simp at b0 ⊢;omega)|grind) ?_
   refine QF ?_ ?_
   .have h:k<l.n:=by have:=qdt b0;omega
    rw[show(decide ((0:Int)<=(k:Int)/\(k:Int)<(x.sK.n:Int))&&decide (x.sK.n<=x.sK.n))=true by simp;omega]
    cases z0<;>rfl
   refine QF ?_ ?_
   .have h:k<l.n:=by have:=qdt b0;omega
    rw[qde (show k<x.sK.n by omega)]
    cases z0<;>rfl
   refine QF ?_ ?_
   .have h:k<l.n:=by have:=qdt b0;omega
    rw[show(decide ((0:Int)<=(k:Int)/\(k:Int)<(l.n:Int))&&decide (l.n<=l.n))=true by simp;omega]
    cases z0<;>rfl
   refine QF ?_ ?_
   .have h:k<l.n:=by have:=qdt b0;omega
    rw[qde h];cases z0<;>rfl
   refine QF ?_ ?_
   .cases z0 with
    | true=>rfl
    | false=>
     simp only[Qe,hw,qbA,qdE,Bool.or_eq_false_iff,Bool.not_eq_false',Bool.false_eq]at y0;simp;omega
   iterate 2 refine QF (by first|rfl|(simp at b0 ⊢;omega)|grind) ?_
   refine K6 λz1 y1=>?_;refine QH ?_ ?_<;>intro b3
   .have h:k<l.n:=by have:=qdt b0;omega
    exact⟨_,.inl ⟨rfl,vV h (by unfold Jx;rw[b1,cond_false,<-y0,<-y1,b3];rfl),rfl⟩,rfl,rfl,_,Qgd,⟨rfl,trivial⟩⟩
   .iterate 37 refine QX (by first|exact tv|(have:=qdt b0;omega)) ?_
    refine Vx ?_ ?_
    .refine KB λa0=>?_;refine Q7 λg0=>?_;have h:k<l.n:=by have:=qdt b0;omega
     exact⟨_,.inl ⟨rfl,vV h (by unfold Jx;rw[b1,cond_false,<-y0,<-y1,b3,show(QN (eqC l k) k 0).isNone=false from a0];rfl),rfl⟩,rfl,rfl,_,QdJ,⟨rfl,trivial⟩⟩
    .refine KB λa1=>?_;refine Q7 λg1=>?_;have h:k<l.n:=by have:=qdt b0;omega
     have e1:alN l k=alN l (k+1):=by rw[alN,b1];rfl
     have e2:i64.wrap (tkN l k+1)=tkN l (k+1):=by rw[tkN,b1];rfl
     refine⟨k+1,h,by show l.n-(k+1)<l.n-k;omega,λe J r=>by unfold rtR at r ⊢;rw[za h (by unfold Jx;rw[b1,cond_false,<-y0,<-y1,b3,show(QN (eqC l k) k 0).isNone=true from a1];rfl)];exact r,rfl,rfl,_,Qb8 ..,?_⟩
     repeat' first|with_reducible refine QK ?_ ?_|exact tv|exact KW h (by omega)|exact e1|exact e2|refine aI ?_ ?_
 .have h:k=l.n:=by have:=qdf b0;omega
  subst h;refine⟨_,.inr ⟨rfl,Gn (qlr _),rfl⟩,rfl,rfl,_,Qen ..,?_⟩
  repeat' first|with_reducible refine QK ?_ ?_|exact tv|refine aI ?_ ?_
