/- - -/
import Derived.Test.YtbpffdkemeoajaaGreatMpv
import Derived.Test.YtbpffdkemeoajaaGreatMpw
open Go.Proofs.Tryz
open Go.IntKind (i64)
set_option maxRecDepth 100000
namespace Go.Proofs.YtbpffdkemeoajaaGreat
open Go.SX
variable (pb:List Prop->Bool)(x:QD)(C:List (List QB))(l:List QB)(k:Nat)
def QD.sz:Bool:=decide ((x.sK.n:Int)<=12)&&(decide ((x.hang.n:Int)<=12)&&(Qe x.lost 0 9&&Qe x.fK 0 3))
def QD.ok(x:QD):Bool:=x.sz&&(x.d.ok&&(Vy x.d.pK x.sK && !decide (Kq (jxO x)≥0)))
def jxR(e:Ex)(J:JSt):Prop:=(e = .ret/\(QN (Jf x) (x.hang.n-k) k).isSome=true/\J=⟨19,[(4,vi (Kq (QN (Jf x) (x.hang.n-k) k)))],[],8⟩)∨(e = .exit 0/\QN (Jf x) (x.hang.n-k) k=none/\J=⟨19,[],[],8⟩)
theorem Qbx(hl:x.hang.n<=1000):Kk (jxJ x) (λk=>k<=x.hang.n) (λk=>x.hang.n-k) (jxR x) 8 zM [] (mkE prog K4) (λ_=>hnd (mkE prog K4) 4) (QT f139 0):=by
 refine⟨λk g hk=>Qp (Qeo x k g) ?_⟩;refine QH ?_ ?_<;>intro h
 .have h:k<x.hang.n:=by have:=qdt h;omega
  obtain⟨n,hm⟩:∃ n,x.hang.n-k=n+1:=⟨x.hang.n-k-1,by omega⟩
  have hm':x.hang.n-(k+1)=n:=by omega
  have bad:Jf x k=true->jxR x k .ret ⟨19,[(4,.int false .i64 k)],[],8⟩:=λq=>by
   have hf:QN (Jf x) (x.hang.n-k) k=some k:=by rw[hm,QN,q]
   exact .inl ⟨rfl,by rw[hf];rfl,by rw[hf];rfl⟩
  refine QF (by simp;omega) (QF (by simp;omega) (QF rfl (QH (λh1=>?_) (λh1=>QF rfl (QH (λh2=>?_) (λh2=>QH (λh3=>?_) (λh3=>QF rfl (QH (λh4=>?_) (λh4=>QF rfl (QH (λh5=>?_) (λh5=>?_)))))))))))
  .exact⟨_,bad (by simp only[Jf,qU,h1,Bool.true_or]),rfl,rfl,_,vK _ _,⟨rfl,trivial⟩⟩
  .exact⟨_,bad (by simp only[Jf,qU,h2,Bool.true_or,Bool.or_true]),rfl,rfl,_,vK _ _,⟨rfl,trivial⟩⟩
  .exact⟨_,bad (by simp only[Jf,qU,h3,Bool.true_or,Bool.or_true]),rfl,rfl,_,vK _ _,⟨rfl,trivial⟩⟩
  .exact⟨_,bad (by simp only[Jf,qU,h4,Bool.true_or,Bool.or_true]),rfl,rfl,_,vK _ _,⟨rfl,trivial⟩⟩
  .exact⟨_,bad (by simp only[Jf,qU,h5,Bool.or_true]),rfl,rfl,_,vK _ _,⟨rfl,trivial⟩⟩
  .have q:Jf x k=false:=by simp only[Jf,qU,h1,h2,h3,h4,h5,Bool.or_self]
   have hf:QN (Jf x) (x.hang.n-k) k=QN (Jf x) (x.hang.n-(k+1)) (k+1):=by rw[hm,hm',QN,q]
   refine⟨k+1,by omega,by show x.hang.n-(k+1)<x.hang.n-k;omega,λe J h=>by unfold jxR at h ⊢;rw[hf];exact h,rfl,rfl,_,QWG x k (k+1),?_⟩
   have hw:i64.wrap ((k:Int)+1)=((k+1:Nat):Int):=(w64 (by omega) (by omega)).trans (by omega)
   repeat' first|exact tv|exact hw|refine aI ?_ ?_
 .have h:x.hang.n<=k:=by have:=qdf h;omega
  have hf:QN (Jf x) (x.hang.n-k) k=none:=by rw[show x.hang.n-k=0 by omega];rfl
  exact⟨_,.inr ⟨rfl,hf,rfl⟩,rfl,rfl,_,QEn,trivial⟩
def jxX:List (Prop×Ex×JSt):=[((jxO x).isSome=true,.ret,⟨19,[(4,.int false .i64 (Kq (jxO x)))],[],8⟩),(jxO x=none,.exit 0,⟨19,[],[],8⟩)]
abbrev jxH(P:Program)(x:QD):Hnd:={ hnd (mkE P K4) 1 with loop:=λ_=>Q4 8 [] (jxJ x (0:Nat)) (jxX x) }
theorem Qbu(hl:x.hang.n<=1000)(G:Ctx)(hrd:G.rd=none)(hG:G.n=8):Q8 (mkE prog K4) G (jxH prog x) (Qi f139):=by
 refine Kg (body:=QT f139 0) (QL Vz) hrd (by kernel_rfl) ?_
 refine Kr (n0:=8) (QL Vz) (by omega) (λs hs=>Qw (QL Vz) 4 G _ hrd) (λs hs=>qlr _) ?_ (Qbx x hl) (s0:=0) (Nat.zero_le _) ?_
 .rintro s e J (⟨_,_,rfl⟩|⟨_,_,rfl⟩)<;>exact qlr _
 .rintro e J (⟨rfl,h,rfl⟩|⟨rfl,h,rfl⟩)
  .exact⟨_,qmc,h,rfl,rfl⟩
  .exact⟨_,List.mem_cons_of_mem _ qmc,h,rfl,rfl⟩
theorem Qa3 :Js (mkE prog K4) (jxH prog x) f139 (jxU x) = .ak [0=0,x.hang.n=x.hang.n,cO=cO,Fn.func (109:FuncId)=Fn.func (109:FuncId),0=0,0=0,(x.hang.n:Int)=(x.hang.n:Int),(0:Int)=0,Fn.func (108:FuncId)=Fn.func (108:FuncId),0=0,0=0] (.ak (xq x) (.ak (xp x) (.both (.asm ((jxO x).isSome=true) (.all (λ(g0:Nat->Value)=>.leaf (vi (Kq (jxO x))) ([])))) (.asm (jxO x=none) (.all (λ(g1:Nat->Value)=>.leaf (vj (-1)) ([]))))))):=by kernel_rfl
theorem QS9:QI 8 [(vi (Kq (jxO x)))] ([]) (Kb (jxU x))=( some [Kq (jxO x)=Kq (jxO x)]):=by kernel_rfl
theorem Qgy:QI 8 [(vj (-1:Int))] ([]) (Kb (jxU x))=( some [(-1:Int)=Kq (jxO x)]):=by kernel_rfl
theorem QcF(hl:x.hang.n<=1000):QO prog 139 (uFC (jxU x)):=by
 refine JT (E:=mkE prog K4) (QL Vz) func139 (by kernel_rfl) (by kernel_rfl) (Gl (Nat.zero_le _) rfl rfl λ_=>rfl) (Qbu x hl) ⟨?_⟩
 refine Qp (Qa3 x) ?_
 repeat' first|refine QX (show _=_ by with_reducible rfl) ?_|refine QX (show _<=_ from qlr _) ?_|refine QX (show QC _ _ _ _ from qRr) ?_
 refine Vx (KB λh=>Q7 λg=>?_) (KB λh=>Q7 λg=>?_)
 .exact⟨rfl,rfl,_,QS9 x,⟨rfl,trivial⟩⟩
 .refine⟨rfl,rfl,_,Qgy x,⟨?_,trivial⟩⟩;rw[h];rfl
def QEA:Tab:=Qh K4 139 (Jj pb (jxU x))
theorem Qdk:Js (mkE prog (QEA pb x)) (hnd (mkE prog (QEA pb x)) 1) f110 (cxU x)=QE.need (pb ([0=0,x.hang.n=x.hang.n,cO=cO,Fn.func (109:Nat)=Fn.func (109:Nat),0=0,0=0,Fn.func (108:Nat)=Fn.func (108:Nat),0=0,0=0]++(xq x++([x.d.ps.n<=x.d.ps.n,QC (28:Nat) x.d.ps.n (λi=>QA.enc (x.d.ps.get i)) λi=>QA.enc (x.d.ps.get i),x.sK.n<=x.sK.n,QC (28:Nat) x.sK.n (λi=>QA.enc (x.sK.get i)) λi=>QA.enc (x.sK.get i),x.hang.n<=x.hang.n,QC (4:Nat) x.hang.n (λi=>QA.enc (x.hang.get i)) λi=>QA.enc (x.hang.get i)])))) (QE.leaf (AV.bool false (decide (Kq (jxO x)≥(0:Int)))) ([])):=by kernel_rfl
theorem Qap:QI 8 [(AV.bool false (decide (Kq (jxO x)≥(0:Int))))] ([]) (Kb (cxU x))=( some [decide (Kq (jxO x)≥(0:Int))=decide (Kq (jxO x)≥(0:Int))]):=by kernel_rfl
def He:Tab:=Qh K4 110 (Jj pb (cxU x))
theorem QTC :KI (mkE prog (He pb x)) (hnd (mkE prog (He pb x)) 1) f73 (QW.vals 0 ((x,()):QD×Unit)) (QW.blks 0 ((x,()):QD×Unit)) 8 = .br (decide ((x.sK.n:Int)<=12)) (.br (decide ((x.hang.n:Int)<=12)) (.need (true) (.br (Qe x.lost (0:Int) (9:Int)) (.need (true) (.br (Qe x.fK (0:Int) (3:Int)) (.need (decide (x.d.ps.n<=x.d.ps.n)&&true&&decide (x.d.ps.n<=1000)) (.br (x.d.ok) (.need (true&&(decide (x.sK.n<=x.sK.n)&&true)&&decide (x.sK.n<=1000)) (.br (Vy x.d.pK x.sK) (.need (pb ([0=0,x.hang.n=x.hang.n,cO=cO,Fn.func 109=Fn.func 109,0=0,0=0,Fn.func 108=Fn.func 108,0=0,0=0]++(xq x++(xp x)))) (.leaf (.bool false !decide (Kq (jxO x)≥0)) ([]))) (.leaf (.bool true false) ([])))) (.leaf (.bool true false) ([])))) (.leaf (.bool true false) ([])))) (.leaf (.bool true false) ([])))) (.leaf (.bool true false) ([]))) (.leaf (.bool true false) ([])):=by kernel_rfl
theorem QTw(hl:x.hang.n<=1000):QZ (QEA QV x):=Vz.add (QcF x hl)
theorem QZQ(hl:x.hang.n<=1000):QO prog 110 (uFC (cxU x)):=by
 have hE:=QL (QTw x hl);refine JT (E:=mkE prog (QEA QV x)) hE (c:=Qi f110) func110 (by kernel_rfl) (by kernel_rfl) (Gl (Nat.zero_le _) rfl rfl λ_=>rfl) (λG h1 _=>Qw hE 1 G _ h1) ⟨?_⟩
 refine Qp (Qdk QV x) ?_;refine QF (KP.2 ?_) ⟨rfl,rfl,_,Qap x,⟨rfl,trivial⟩⟩
 repeat' first|exact tv|refine aI ?_ ?_
theorem Qgq(hl:x.hang.n<=1000):QZ (He QV x):=Vz.add (QZQ x hl)
def GM:WF (QD×Unit):=λ|(x,_)=>(decide (x.d.ps.n<=1000/\x.sK.n<=1000/\x.hang.n<=1000),.bool false x.ok,[])
def QMv:FC:=wFC GM
theorem QS0(hx:(GM (x,())).1=true):QO prog 73 (wFC (JN GM (x,()))):=by
 obtain⟨h1,h2,h3⟩:=qdt hx;have hE:=QL (Qgq x h3);refine Vt (c:=Qi f73) (E:=mkE prog (He QV x)) (H:=hnd (mkE prog (He QV x)) 1) hE func73 (by kernel_rfl) (by kernel_rfl) (N:=8) (by decide) (x,()) (λG h1 _=>Qw hE 1 G _ h1) ⟨rfl,by simp[GM],rfl⟩ ?_
 refine Qp (QTC QV x) ?_;have no:x.ok=false->(QE.leaf (AV.bool true false) []).den (VQ 8 (GM (x,())).2.1 (GM (x,())).2.2):=λh=>KT (show false=x.ok by rw[h]) rfl
 refine QH (λa1=>QH (λa2=>QF rfl (QH (λa3=>QF rfl (QH (λa4=>QF (by simp;omega) (QH (λa5=>QF (by simp;omega) (QH (λa6=>QF (KP.2 ?_) (KT ?_ rfl)) (λa6=>no ?_))) (λa5=>no ?_))) (λa4=>no ?_))) (λa3=>no ?_))) (λa2=>no ?_)) (λa1=>no ?_)
 .repeat' first|exact tv|refine aI ?_ ?_
 .show(!decide (Kq (jxO x)≥0))=x.ok;simp only[QD.ok,QD.sz,a1,a2,a3,a4,a5,a6,Bool.true_and]
 .simp only[QD.ok,a6,Bool.false_and,Bool.and_false]
 .simp only[QD.ok,a5,Bool.false_and,Bool.and_false]
 .simp only[QD.ok,QD.sz,a4,Bool.false_and,Bool.and_false]
 .simp only[QD.ok,QD.sz,a3,Bool.false_and,Bool.and_false]
 .simp only[QD.ok,QD.sz,a2,Bool.false_and,Bool.and_false]
 .simp only[QD.ok,QD.sz,a1,Bool.false_and]
theorem QVZ:QO prog 73 QMv:=WL (by kernel_rfl) λ|(x,()),h=>QS0 x h
def Qu:Tab:=Qh K4 73 QMv
theorem KC:QZ Qu:=Vz.add QVZ
def QG(i:Nat):List QB:=C.getD i []
def Jm(own:Bool)(id:Nat)(C:List (List QB)):Nat×Blk:=(id,.frz2 own 38 [.int .i64,.int .i64] C.length (λi=>(QG C i).length) λi j=>QA.enc ((QG C i).getD j ⟨0,0⟩))
def srC:List AV:=K2 0 x++[.slz 4 0 C.length (.of 0)]
def srB:List (Nat×Blk):=[(3,.cellsR 0 149 (srC x C)),Jm false 4 C]++JC 0 x
def qJ(j:Jn)(a:QB):Int:=(j.i+a.turn).tmod 4
def XS(j:Jn)(a b:QB):Bool:=cond ((a.cell == -2)||(b.cell == -2)) ((a.cell==b.cell)&&((a.turn==b.turn)&&true)) ((Qj x.d.wide x.d.high a.cell (qJ j a)==b.cell)&&((j.j+b.turn).tmod 4==jj (qJ j a)))
def hgU(j:Jn)(a b:QB):UC:=⟨0,⟨4,[(0,.ptr 3 0 0),(1,Enc.enc j),(2,Enc.enc a),(3,Enc.enc b)],srB x C,8⟩,λ_=>.bool false (XS x j a b),λ_=>[]⟩
theorem Qdb(j:Jn)(a b:QB):Js (mkE prog Qu) (hnd (mkE prog Qu) 1) f113 (hgU x C j a b)=QE.br (a.cell==(-2:Int)) (QE.leaf (AV.bool false (a.cell==b.cell&&(a.turn==b.turn&&true))) ([])) (QE.br (b.cell==(-2:Int)) (QE.leaf (AV.bool false (a.cell==b.cell&&(a.turn==b.turn&&true))) ([])) (QE.need (decide (x.d.ps.n<=x.d.ps.n)&&(true&&(true&&true))&&decide (((1:Int)<=x.d.wide/\x.d.wide<=(100:Int))/\((1:Int)<=x.d.high/\x.d.high<=(100:Int))/\(0:Int)<=a.cell/\a.cell<=(100:Int))) (QE.br (Qj x.d.wide x.d.high a.cell ((i64.wrap (j.i+a.turn)).tmod (4:Int))==b.cell) (QE.need (decide ((0:Int)<=(i64.wrap (j.i+a.turn)).tmod (4:Int)/\(i64.wrap (j.i+a.turn)).tmod (4:Int)<=(3:Int))) (QE.leaf (AV.bool false ((i64.wrap (j.j+b.turn)).tmod (4:Int)==jj ((i64.wrap (j.i+a.turn)).tmod (4:Int)))) ([]))) (QE.leaf (AV.bool true false) ([]))))):=by kernel_rfl
theorem QUr(j:Jn)(a b:QB)(c v:Bool):QI 8 [.bool c v] [] (Kb (hgU x C j a b))=( some [v=XS x j a b]):=by kernel_rfl
structure K8 (s:QB):Prop where
 cell:s.cell = -2∨0<=s.cell/\s.cell<=100
 turn:0<=s.turn/\s.turn<=3
structure JnB (j:Jn):Prop where
 i:0<=j.i/\j.i<=3
 j:0<=j.j/\j.j<=3
theorem QLO{n:Int}(h:0<=n):0<=n.tmod 4/\n.tmod 4<=3:=by
 have h1:=Int.tmod_nonneg 4 h;have h2:=Int.tmod_lt_of_pos n (show(0:Int)<4 by decide)
 omega
theorem QVx(j:Jn)(a b:QB)(hd:jM x.d)(hj:JnB j)(ha:K8 a)(hb:K8 b):QO prog 113 (uFC (hgU x C j a b)):=by
 refine JT (E:=mkE prog Qu) (QL KC) (c:=Qi f113) func113 (by kernel_rfl) (by kernel_rfl) (Gl (Nat.zero_le _) rfl rfl λ_=>rfl) (λG h1 _=>Qw (QL KC) 1 G _ h1) ⟨?_⟩
 refine Qp (Qdb x C j a b) ?_;have hw:=hd.w1;have hwn:=hd.wn;have hh:=hd.h1;have hhn:=hd.hn;have h9:=hd.n9;have ha2:=ha.turn;have hb2:=hb.turn;have hi:=hj.i;have hjj:=hj.j;have fin:∀(c v:Bool),v=XS x j a b->(QE.leaf (.bool c v) []).den (jv (hgU x C j a b)):=λc v h=>⟨rfl,rfl,_,QUr x C j a b c v,⟨h,trivial⟩⟩;have w1:i64.wrap (j.i+a.turn)=j.i+a.turn:=w64 (by omega) (by omega)
 have w2:i64.wrap (j.j+b.turn)=j.j+b.turn:=w64 (by omega) (by omega)
 have m:=QLO (n:=j.i+a.turn) (by omega)
 rw[w1,w2];refine QH (λh=>fin _ _ ?_) (λh=>QH (λh2=>fin _ _ ?_) (λh2=>QF ?_ (QH (λh3=>QF ?_ (fin _ _ ?_)) (λh3=>fin _ _ ?_))))
 .simp only[XS,h,Bool.true_or,cond_true]
 .simp only[XS,h2,Bool.or_true,cond_true]
 .have:¬ a.cell = -2:=by simpa using h
  have:=ha.cell;simp only[qlr,decide_true,Bool.true_and,qdE];omega
 .simp only[qdE];exact m
 .simp only[XS,h,h2,Bool.or_self,cond_false,qJ,h3,Bool.true_and]
 .simp only[XS,h,h2,Bool.or_self,cond_false,qJ,h3,Bool.false_and]
def frS(id:Nat)(l:List QB):Nat×Blk:=(id,.frz kB l.length λi=>QA.enc (l.getD i ⟨0,0⟩))
def ftB:List (Nat×Blk):=frS 5 l::srB x C
def ftJ:JSt:=⟨45,[(0,.ptr 3 0 0),(1,.slz 5 0 l.length (.of 0)),(5,vi ((l.length:Int)-1)),(15,.slz 2 0 x.hang.n (.of 0)),(16,vi x.hang.n),(17,vi k)],ftB x C l,32⟩
def QRh:Ex->List Nat
 | .normal=>[0,1,5,15,16,17]
 | .exit _=>[]
 | .ret=>[4]
def QIc:JSt:=⟨45,[(4,.bool false false)],[],32⟩
def QI9:JSt:=⟨45,[],[],32⟩
def QFX:UC:=hgU x C (x.hang.get k) (l.getD (x.hang.get k).a.toNat ⟨0,0⟩) (l.getD (x.hang.get k).b.toNat ⟨0,0⟩)
def QI1(U:UC):Tab:=Qh Qu 113 (Jj pb U)
noncomputable abbrev QO0(l:List QB)(x:QD):List AV:=
  [.nilp,.ptr 45 0 0,.ptr 3 0 0,.slz 5 0 l.length cO,vi ((l.length:Int)-1),.slz 2 0 x.hang.n cO,vi (x.hang.n:Int),.int false
  .i64 (i64.wrap ((k:Int)+1))]
abbrev QJW:List CK:=
  [.int .i64,.int .i64,.int .i64,.int .i64,.int .i64,.int .i64,.int .i64,.int .i64,.int .i64,.int .i64,.int .i64,.int .i64,.int .i64,.int .i64,.int .i64,.int .i64,.int
  .i64,.int .i64,.int .i64,.int .i64,.int .i64,.int .i64,.int .i64,.int .i64,.int .i64,.int .i64,.int .i64,.int .i64]
noncomputable abbrev QBT(x:QD):List (Nat×Blk):=
  [(3,.cellsR 0 149 [vi x.d.pK.length,vi x.d.pK.aK,vi x.d.pK.oK,vi x.d.pK.dK.lo,.int false .i64
  x.d.pK.dK.hi,vi x.d.wide,vi x.d.high,.bool false x.d.turn,.slz 0 0 x.d.ps.n cO,.slz 1 0 x.sK.n cO,.slz 2 0 x.hang.n (Cap.of
  0),vi x.lost,vi x.fK,.slz 4 0 C.length cO]),(5,.frz kB l.length λi=>QA.enc (l.getD i ⟨0,0⟩)),(2,.frz [.int
  .i64,.int .i64,.int .i64,.int .i64] x.hang.n λi=>QA.enc (x.hang.get i)),(0,.frz QJW x.d.ps.n λi=>QA.enc (x.d.ps.get i)),(1,.frz QJW x.sK.n λi=>
  QA.enc (x.sK.get i)),(4,.frz2 false 38 kB C.length (λi=>(QG C i).length) λi j=>QA.enc ((QG C i).getD j ⟨0,0⟩))]
theorem QZv(g:Nat->Value):exec (mkE prog (QI1 pb (QFX x C l k))) (hnd (mkE prog (QI1 pb (QFX x C l k))) 0) (QT f81 0) (JSt.inst (ftJ x C l k) g) (KG [] QRh) = .br (decide ((k:Int)<(x.hang.n:Int))) (.need (decide ((0:Int)<=(k:Int)/\(k:Int)<(x.hang.n:Int))&&decide (x.hang.n<=x.hang.n)) (.need (decide (k<x.hang.n)) (.br (max (x.hang.get k).a (x.hang.get k).b==(l.length:Int)-1) (.need (decide ((0:Int)<=(x.hang.get k).a/\(x.hang.get k).a<(l.length:Int))&&decide (l.length<=l.length)) (.need (decide ((x.hang.get k).a.toNat<l.length)) (.need (decide ((0:Int)<=(x.hang.get k).b/\(x.hang.get k).b<(l.length:Int))&&decide (l.length<=l.length)) (.need (decide ((x.hang.get k).b.toNat<l.length)) (.need (pb ([0=0,0=0,(x.hang.get k).a=(x.hang.get k).a,(x.hang.get k).i=(x.hang.get k).i,(x.hang.get k).b=(x.hang.get k).b,(x.hang.get k).j=(x.hang.get k).j,(l.getD (x.hang.get k).a.toNat ⟨0,0⟩).cell=(l.getD (x.hang.get k).a.toNat ⟨0,0⟩).cell,(l.getD (x.hang.get k).a.toNat ⟨0,0⟩).turn=(l.getD (x.hang.get k).a.toNat ⟨0,0⟩).turn,(l.getD (x.hang.get k).b.toNat ⟨0,0⟩).cell=(l.getD (x.hang.get k).b.toNat ⟨0,0⟩).cell,(l.getD (x.hang.get k).b.toNat ⟨0,0⟩).turn=(l.getD (x.hang.get k).b.toNat ⟨0,0⟩).turn]++(xq x++([0=0,C.length=C.length,cO=cO,C.length=C.length,Q1 2 C.length (λi=>(QG C i).length) (λi=>(QG C i).length) (λi j=>QA.enc ((QG C i).getD j ⟨0,0⟩)) λi j=>QA.enc ((QG C i).getD j ⟨0,0⟩)]++(xp x))))) (.br (!XS x (x.hang.get k) (l.getD (x.hang.get k).a.toNat ⟨0,0⟩) (l.getD (x.hang.get k).b.toNat ⟨0,0⟩)) (.leaf (.tup [.nili,.ptr 45 0 0,.bool true false]) ([])) (.leaf (.tup (QO0 k l x)) ((QBT C l x))))))))) (.leaf (.tup (QO0 k l x)) ((QBT C l x)))))) (.leaf (.tup [.ptr 0 0 0,.ptr 45 0 0]) ([])):=by kernel_rfl
theorem QS3 :QI 8 [AV.bool true false] ([]) QIc=( some [false=false]):=by kernel_rfl
noncomputable abbrev QQ1(l:List QB)(x:QD):List AV:=
  [.ptr 3 0 0,.slz 5 0 l.length cO,vi ((l.length:Int)-1),.slz 2 0 x.hang.n cO,vi (x.hang.n:Int),vi (i64.wrap
  ((k:Int)+1))]
abbrev QOA(k':Nat)(l:List QB)(x:QD):List Prop:=
  [0=0,0=0,0=0,l.length=l.length,cO=cO,(l.length:Int)-1=(l.length:Int)-1,0=0,x.hang.n=x.hang.n,cO=cO,(x.hang.n:Int) =
  (x.hang.n:Int),i64.wrap ((k:Int)+1)=(k':Int),l.length<=l.length,QC 2 l.length (λi=>QA.enc (l.getD i ⟨0,0⟩)) λi=>QA.enc (l.getD i ⟨0,0⟩),
  x.d.pK.length=x.d.pK.length,x.d.pK.aK=x.d.pK.aK,x.d.pK.oK=x.d.pK.oK,x.d.pK.dK.lo=x.d.pK.dK.lo,x.d.pK.dK.hi=x.d.pK.dK.hi,
  x.d.wide=x.d.wide,x.d.high=x.d.high,x.d.turn=x.d.turn,0=0,x.d.ps.n=x.d.ps.n,cO=cO,0=0,x.sK.n=x.sK.n,cO=cO,0=0,x.hang.n =
  x.hang.n,cO=cO,x.lost=x.lost,x.fK=x.fK,0=0,C.length=C.length,cO=cO,C.length=C.length,Q1 2 C.length (λi=>(QG C
  i).length) (λi=>(QG C i).length) (λi j=>QA.enc ((QG C i).getD j ⟨0,0⟩)) λi j=>QA.enc ((QG C i).getD j ⟨0,0⟩),x.d.ps.n<=x.d.ps.n,QC 28 x.d.ps.n (fun
  i=>QA.enc (x.d.ps.get i)) λi=>QA.enc (x.d.ps.get i),x.sK.n<=x.sK.n,QC 28 x.sK.n (λi=>QA.enc (x.sK.get i)) λi=>QA.enc (x.sK.get i),
  x.hang.n<=x.hang.n,QC 4 x.hang.n (λi=>QA.enc (x.hang.get i)) λi=>QA.enc (x.hang.get i)]
theorem QgP(k k':Nat):QI 8 (QQ1 k l x) ((QBT C l x)) (ftJ x C l k')=(some (QOA C k k' l x)):=by kernel_rfl
theorem QaM(k k':Nat):QI 8 (QQ1 k l x) ((QBT C l x)) (ftJ x C l k')=(some (QOA C k k' l x)):=by kernel_rfl
theorem QZ1 :QI 8 [] ([]) QI9=( some []):=by kernel_rfl
theorem QS(m:Nat)(n:Nat)(ln:Nat->Nat)(g:Nat->Nat->Nat->Int):Q1 m n ln ln g g:=λ_ _=>⟨rfl,qRr⟩
instance{m:Nat}{n:Nat}{ln:Nat->Nat}{g:Nat->Nat->Nat->Int}:Tv (Q1 m n ln ln g g):=⟨QS _ _ _ _⟩
def Zq:Bool:=max (x.hang.get k).a (x.hang.get k).b==(l.length:Int)-1
def V5:Bool:=Zq x l k && !XS x (x.hang.get k) (l.getD (x.hang.get k).a.toNat ⟨0,0⟩) (l.getD (x.hang.get k).b.toNat ⟨0,0⟩)
def Kn:Bool:=(QN (V5 x l) x.hang.n 0).isNone
structure Kx (x:QD):Prop where
 d:jM x.d
 n:x.hang.n<=12
 s:x.sK.n<=12
 j:∀ k,k<x.hang.n->JnB (x.hang.get k)/\(0<=(x.hang.get k).a/\(x.hang.get k).a<x.sK.n)/\0<=(x.hang.get k).b/\(x.hang.get k).b<x.sK.n
structure vz (l:List QB):Prop where
 pos:0<l.length
 le:l.length<=1000
 s:∀ i,i<l.length->K8 (l.getD i ⟨0,0⟩)
noncomputable def Gs:List Prop->Bool:=match decide (k<x.hang.n)&&Zq x l k with
 | true=>QV
 | false=>λ_=>false
noncomputable def vS(P:Program)(x:QD)(C:List (List QB))(l:List QB)(k:Nat):Env:=mkE P (QI1 (Gs x l k) (QFX x C l k))
theorem QLn{x:QD}{l:List QB}(hx:Kx x)(hl:vz l){k:Nat}(hk:k<x.hang.n)(hm:Zq x l k=true):(0<=(x.hang.get k).a/\(x.hang.get k).a<l.length)/\0<=(x.hang.get k).b/\(x.hang.get k).b<l.length:=by
 obtain⟨_,h1,h2⟩:=hx.j k hk;have:=hl.pos;simp only[Zq,beq_iff_eq]at hm;omega
theorem QNv{x:QD}{C:List (List QB)}{l:List QB}(hx:Kx x)(hl:vz l)(k:Nat):(vS prog x C l k).Sound:=by
 unfold vS Gs;split
 .rename_i hc;simp only[qbA,qdE]at hc;obtain⟨h1,h2⟩:=QLn hx hl hc.1 hc.2;exact QL (KC.add (QVx x C _ _ _ hx.d (hx.j k hc.1).1 (hl.s _ (by omega)) (hl.s _ (by omega))))
 .exact QL (KC.add (Zm (by kernel_rfl) _))
def ftR(e:Ex)(J:JSt):Prop:=(e = .ret/\(QN (V5 x l) (x.hang.n-k) k).isNone=false/\J=QIc)∨(e = .exit 0/\(QN (V5 x l) (x.hang.n-k) k).isNone=true/\J=QI9)
theorem QWb(hx:Kx x)(hl:vz l):qg (ftJ x C l) (λk=>k<=x.hang.n) (λk=>x.hang.n-k) (ftR x l) 8 QRh [] (vS prog x C l) (λk=>hnd (vS prog x C l k) 0) (QT f81 0):=by
 refine⟨λk g hk=>?_⟩;unfold vS;refine Qp (QZv (Gs x l k) x C l k g) ?_;have h12:=hx.n;refine QH ?_ ?_<;>intro h
 .have h:k<x.hang.n:=by have:=qdt h;omega
  obtain⟨m,hm⟩:∃ m,x.hang.n-k=m+1:=⟨x.hang.n-k-1,by omega⟩
  have hm':x.hang.n-(k+1)=m:=by omega
  have hw:i64.wrap ((k:Int)+1)=((k+1:Nat):Int):=(w64 (by omega) (by omega)).trans (by omega)
  have go:V5 x l k=false->∀ e J,ftR x l (k+1) e J->ftR x l k e J:=λq e J h=>by
   have hf:QN (V5 x l) (x.hang.n-k) k=QN (V5 x l) (x.hang.n-(k+1)) (k+1):=by rw[hm,hm',QN,q]
   unfold ftR at h ⊢;rw[hf];exact h
  refine QF (by simp;omega) (QF (by simp;omega) (QH (λhb=>?_) (λhb=>?_)))
  .have hb:Zq x l k=true:=hb;obtain⟨i1,i2⟩:=QLn hx hl h hb;have hpb:Gs x l k=QV:=by simp only[Gs,hb,qde h,Bool.and_self]
   rw[hpb];refine QF (by simp;omega) (QF (by simp;omega) (QF (by simp;omega) (QF (by simp;omega) (QF (KP.2 ?_) (QH (λhq=>?_) (λhq=>?_))))))
   .repeat' first|exact tv|refine aI ?_ ?_
   .have q:V5 x l k=true:=by simp only[V5,hb,Bool.true_and];exact hq
    have hf:QN (V5 x l) (x.hang.n-k) k=some k:=by rw[hm,QN,q]
    exact⟨_,.inl ⟨rfl,by rw[hf];rfl,rfl⟩,rfl,rfl,_,QS3,⟨rfl,trivial⟩⟩
   .have q:V5 x l k=false:=by simp only[V5,hb,Bool.true_and];exact hq
    refine⟨k+1,by show k+1<=x.hang.n;omega,by show x.hang.n-(k+1)<x.hang.n-k;omega,go q,rfl,rfl,_,QgP x C l k (k+1),?_⟩
    repeat' first|exact tv|exact hw|refine aI ?_ ?_
  .have hb:Zq x l k=false:=hb;have q:V5 x l k=false:=by simp only[V5,hb,Bool.false_and]
   refine⟨k+1,by show k+1<=x.hang.n;omega,by show x.hang.n-(k+1)<x.hang.n-k;omega,go q,rfl,rfl,_,QaM x C l k (k+1),?_⟩
   repeat' first|exact tv|exact hw|refine aI ?_ ?_
 .have h:x.hang.n<=k:=by have:=qdf h;omega
  have hf:QN (V5 x l) (x.hang.n-k) k=none:=by rw[show x.hang.n-k=0 by omega];rfl
  exact⟨_,.inr ⟨rfl,by rw[hf];rfl,rfl⟩,rfl,rfl,_,QZ1,trivial⟩
def ftX:List (Prop×Ex×JSt):=[(Kn x l=false,.ret,QIc),(Kn x l=true,.exit 0,QI9)]
abbrev ftH(P:Program)(x:QD)(C:List (List QB))(l:List QB):Hnd:={ hnd (mkE P Qu) 1 with loop:=λ_=>Q4 8 [] (ftJ x C l (0:Nat)) (ftX x l) }
theorem QgD(hx:Kx x)(hl:vz l)(G:Ctx)(hrd:G.rd=none)(hG:G.n=8):Q8 (mkE prog Qu) G (ftH prog x C l) (Qi f81):=by
 refine Kg (body:=QT f81 0) (QL KC) hrd (by kernel_rfl) ?_
 refine vo (E0:=mkE prog Qu) (E:=vS prog x C l) (H:=λk=>hnd (vS prog x C l k) 0) (n0:=8) (s0:=0) (λ_=>rfl) (QNv hx hl) (by omega) (λk _=>Qw (QNv hx hl k) 0 G _ hrd) (λk _=>(by decide:8<=32)) ?_ (QWb x C l hx hl) (Nat.zero_le _) ?_
 .rintro s e J (⟨_,_,rfl⟩|⟨_,_,rfl⟩)<;>exact(by decide:8<=32)
 .rintro e J (⟨rfl,h,rfl⟩|⟨rfl,h,rfl⟩)
  .exact⟨_,qmc,h,rfl,rfl⟩
  .exact⟨_,List.mem_cons_of_mem _ qmc,h,rfl,rfl⟩
def ftU:UC:=⟨0,⟨2,[(0,.ptr 3 0 0),(1,.slz 5 0 l.length (.of 0))],ftB x C l,8⟩,λ_=>.bool false (Kn x l),λ_=>[]⟩
theorem QUP :Js (mkE prog Qu) (ftH prog x C l) f81 (ftU x C l) = .ak [0=0,0=0,0=0,l.length=l.length,cO=cO,i64.wrap ((l.length:Int)-1)=(l.length:Int)-1,0=0,x.hang.n=x.hang.n,cO=cO,(x.hang.n:Int)=(x.hang.n:Int),(0:Int)=0,l.length<=l.length,QC 2 l.length (λi=>QA.enc (l.getD i ⟨0,0⟩)) λi=>QA.enc (l.getD i ⟨0,0⟩)] (.ak (xq x) (.ak [0=0,C.length=C.length,cO=cO,C.length=C.length,Q1 2 C.length (λi=>(QG C i).length) (λi=>(QG C i).length) (λi j=>QA.enc ((QG C i).getD j ⟨0,0⟩)) λi j=>QA.enc ((QG C i).getD j ⟨0,0⟩)] (.ak (xp x) (.both (.asm (Kn x l=false) (.all (λ(g0:Nat -> Value)=>.leaf (.bool false false) ([])))) (.asm (Kn x l=true) (.all (λ(g1:Nat->Value)=>.leaf (.bool true true) ([])))))))):=by kernel_rfl
theorem QQG(c v:Bool):QI 8 [.bool c v] [] (Kb (ftU x C l))=( some [v=Kn x l]):=by kernel_rfl
theorem QCz(hx:Kx x)(hl:vz l):QO prog 81 (uFC (ftU x C l)):=by
 refine JT (E:=mkE prog Qu) (QL KC) func81 (by kernel_rfl) (by kernel_rfl) (Gl (Nat.zero_le _) rfl rfl λ_=>rfl) (QgD x C l hx hl) ⟨?_⟩
 refine Qp (QUP x C l) ?_;have hp:=hl.pos;have hle:=hl.le;have hw:i64.wrap ((l.length:Int)-1)=(l.length:Int)-1:=w64 (by omega) (by omega)
 repeat' first|refine QF rfl ?_|refine QX (show _=_ by with_reducible rfl) ?_|refine QX (show _<=_ from qlr _) ?_|refine QX (show QC _ _ _ _ from qRr) ?_|refine QX (show Q1 _ _ _ _ _ _ from QS _ _ _ _) ?_|refine QX (p:=i64.wrap ((l.length:Int)-1)=(l.length:Int)-1) hw ?_
 refine Vx (KB λh=>Q7 λg=>?_) (KB λh=>Q7 λg=>?_)
 .exact⟨rfl,rfl,_,QQG x C l _ _,⟨h.symm,trivial⟩⟩
 .exact⟨rfl,rfl,_,QQG x C l _ _,⟨h.symm,trivial⟩⟩
end Go.Proofs.YtbpffdkemeoajaaGreat
namespace Go.SX
open Go Go.RowKit Go.Proofs.YtbpffdkemeoajaaGreat
def Yd(fc:FC):FC:=λargs nid _=>fc args nid (YK (AV.idsFromL 0 args) [])
theorem ZA{P:Program}{f:FuncId}{fc:FC}(h:QO P f fc):QO P f (Yd fc):=
 ⟨h.1,λargs nid _ r w lk blks eff hH ha hv he hp=>h.2 args nid (YK (AV.idsFromL 0 args) []) r w lk blks eff hH ha hv he hp⟩
end Go.SX
namespace Go.Proofs.YtbpffdkemeoajaaGreat
open Go.SX
def Xl:Tab:=Qh Qu 71 (Yd QFY)
theorem zT:QZ Xl:=KC.add (ZA QNp)
def je:QB:=⟨-2,0⟩
variable (x:QD)(C:List (List QB))(l:List QB)(k:Nat)
def K3:List QB:=je::Qy x.d (x.sK.get k) x.d.ps.n
def Qn(x:QD):Nat->List (List QB)
 | 0=>[]
 | k+1=>Qn x k++[K3 x k]
def srO(id c:Nat)(x:QD)(C:List (List QB)):List (Nat×Blk):=[(id,.cells 0 149 (K2 0 x++[.slz c 0 C.length (.of 0)])),Jm true c C]
def nsJ:JSt:=⟨34,[(1,.ptr 8 0 0),(3,.ptr 16 0 0),(10,.slz 1 0 x.sK.n (.of 0)),(11,vi x.sK.n),(12,vi k)],[(8,.cells 0 31 (K2 0 x))]++srO 16 24 x C++JC 0 x,40⟩
def QP4:Ex->List Nat
 | .normal=>[1,3,10,11,12]
 | .exit _=>[3]
 | .ret=>[]
def nsE:JSt:=⟨34,[(3,.ptr 16 0 0)],srO 16 24 x C++JC 0 x,40⟩
abbrev QBC:List CK:=
  [.int .i64,.int .i64,.int .i64,.int .i64,.int .i64,.int .i64,.int .i64,.int .i64,.int .i64,.int .i64,.int .i64,.int .i64,.int .i64,.int .i64,.int .i64,.int .i64,.int
  .i64,.int .i64,.int .i64,.int .i64,.int .i64,.int .i64,.int .i64,.int .i64,.int .i64,.int .i64,.int .i64,.int .i64]
noncomputable abbrev QQU(x:QD):List (Nat×Blk):=
  [(8,.cells 0 31 [vi x.d.pK.length,vi x.d.pK.aK,vi x.d.pK.oK,vi x.d.pK.dK.lo,.int false .i64
  x.d.pK.dK.hi,vi x.d.wide,vi x.d.high,.bool false x.d.turn,.slz 0 0 x.d.ps.n cO,.slz 1 0 x.sK.n cO,.slz 2 0 x.hang.n (Cap.of
  0),vi x.lost,vi x.fK]),(16,.cells 0 149 [vi x.d.pK.length,vi x.d.pK.aK,vi x.d.pK.oK,.int
  false .i64 x.d.pK.dK.lo,vi x.d.pK.dK.hi,vi x.d.wide,vi x.d.high,.bool false x.d.turn,.slz 0 0 x.d.ps.n cO,.slz 1 0
  x.sK.n cO,.slz 2 0 x.hang.n cO,vi x.lost,vi x.fK,.slz 184 0 (C.length+1) cO]),(1,.frz QBC x.sK.n λi=>
  QA.enc (x.sK.get i)),(0,.frz QBC x.d.ps.n λi=>QA.enc (x.d.ps.get i)),(2,.frz [.int .i64,.int .i64,.int .i64,.int .i64] x.hang.n λi=>QA.enc (x.hang.get
  i)),(184,.frz2 true 38 kB (C.length+1) (Va C.length (λi=>(QG C i).length) (1+(Qy x.d (x.sK.get k) x.d.ps.n).length)) (V3 C.length (λi
  j=>QA.enc ((QG C i).getD j ⟨0,0⟩)) (Qa 1 (QU [[vj (-2),vj 0]] 0) λi=>QA.enc ((Qy x.d (x.sK.get k) x.d.ps.n).getD i ⟨0,0⟩))))]
noncomputable abbrev QLs(x:QD):List (Nat×Blk):=
  [(16,.cells 0 149 [vi x.d.pK.length,vi x.d.pK.aK,vi x.d.pK.oK,vi x.d.pK.dK.lo,.int false .i64
  x.d.pK.dK.hi,vi x.d.wide,vi x.d.high,.bool false x.d.turn,.slz 0 0 x.d.ps.n cO,.slz 1 0 x.sK.n cO,.slz 2 0 x.hang.n (Cap.of
  0),vi x.lost,vi x.fK,.slz 24 0 C.length cO]),(0,.frz QBC x.d.ps.n λi=>QA.enc (x.d.ps.get i)),(1,.frz QBC x.sK.n λi=>
  QA.enc (x.sK.get i)),(2,.frz [.int .i64,.int .i64,.int .i64,.int .i64] x.hang.n λi=>QA.enc (x.hang.get i)),(24,.frz2 true 38 kB C.length (fun
  i=>(QG C i).length) λi j=>QA.enc ((QG C i).getD j ⟨0,0⟩))]
theorem QaQ(g:Nat->Value):exec (mkE prog Xl) (hnd (mkE prog Xl) 0) (QT f74 0) (JSt.inst (nsJ x C k) g) (KG [] QP4) = .br (decide ((k:Int)<(x.sK.n:Int))) (.need (decide ((0:Int)<=(k:Int)/\(k:Int)<(x.sK.n:Int))&&decide (x.sK.n<=x.sK.n)) (.need (decide (k<x.sK.n)) (.need (decide (x.d.ps.n<=x.d.ps.n)&&(true&&true)&&decide (x.d.ps.n<=900)) (.need (true&&(decide ((Qy x.d (x.sK.get k) x.d.ps.n).length<=(Qy x.d (x.sK.get k) x.d.ps.n).length)&&decide ((1+(Qy x.d (x.sK.get k) x.d.ps.n).length+(1+(Qy x.d (x.sK.get k) x.d.ps.n).length) / 4+192)*16<=281474976710656/\1+(Qy x.d (x.sK.get k) x.d.ps.n).length<=9223372036854775807))) (.need (decide (C.length=C.length)&&(decide (1+(Qy x.d (x.sK.get k) x.d.ps.n).length<=1+(Qy x.d (x.sK.get k) x.d.ps.n).length)&&decide ((C.length+1+(C.length+1) / 4+192)*24<=281474976710656/\C.length+1<=9223372036854775807))) (.leaf (.tup [.nilp,.ptr 34 0 0,.ptr 8 0 0,.ptr 16 0 0,.slz 1 0 x.sK.n cO, vi (x.sK.n:Int),vi (i64.wrap ((k:Int)+1))]) ((QQU C k x)))))))) (.leaf (.tup [.ptr 0 0 0,.ptr 34 0 0,.ptr 16 0 0]) ((QLs C x))):=by kernel_rfl
abbrev QHK:List Prop:=
  [x.d.pK.aK=x.d.pK.aK,x.d.pK.oK=x.d.pK.oK,x.d.pK.dK.lo=x.d.pK.dK.lo,x.d.pK.dK.hi=x.d.pK.dK.hi,x.d.wide=x.d.wide,x.d.high =
  x.d.high,x.d.turn=x.d.turn,0=0,x.d.ps.n=x.d.ps.n,cO=cO,0=0,x.sK.n=x.sK.n,cO=cO,0=0,x.hang.n=x.hang.n,cO=cO]
abbrev QLe:List Prop:=
  [x.d.ps.n<=x.d.ps.n,QC 28 x.d.ps.n (λi=>QA.enc (x.d.ps.get i)) λi=>QA.enc (x.d.ps.get i),x.sK.n<=x.sK.n,QC 28 x.sK.n (λi=>QA.enc
  (x.sK.get i)) λi=>QA.enc (x.sK.get i),x.hang.n<=x.hang.n,QC 4 x.hang.n (λi=>QA.enc (x.hang.get i)) λi=>QA.enc (x.hang.get i)]
theorem QYy(C C':List (List QB))(k k':Nat):QI 8 [.ptr 8 0 0,.ptr 16 0 0,.slz 1 0 x.sK.n cO,vi (x.sK.n:Int),vi (i64.wrap ((k:Int)+1))] ((QQU C k x)) (nsJ x C' k')=(some ([0=0,0=0,0=0,0=0,0=0,x.sK.n=x.sK.n,cO=cO,(x.sK.n:Int)=(x.sK.n:Int),i64.wrap ((k:Int)+1)=(k':Int), x.d.pK.length=x.d.pK.length]++(QHK x)++[x.lost=x.lost,x.fK=x.fK,x.d.pK.length=x.d.pK.length]++(QHK x)++[x.lost=x.lost,x.fK=x.fK, 0=0,C.length+1=C'.length,cO=cO,C.length+1=C'.length,Q1 2 C'.length (Va C.length (λi=>(QG C i).length) (1+(Qy x.d (x.sK.get k) x.d.ps.n).length)) (λi=>(QG C' i).length) (V3 C.length (λi j=>QA.enc ((QG C i).getD j ⟨0,0⟩)) (Qa 1 (QU [[vj (-2),vj 0]] 0) λi=>QA.enc ((Qy x.d (x.sK.get k) x.d.ps.n).getD i ⟨0,0⟩))) λi j=>QA.enc ((QG C' i).getD j ⟨0,0⟩)]++(QLe x))):=by kernel_rfl
theorem QgV(C C':List (List QB)):QI 8 [.ptr 16 0 0] ((QLs C x)) (nsE x C')=(some ([0=0,0=0,x.d.pK.length=x.d.pK.length]++(QHK x)++[x.lost=x.lost,x.fK=x.fK,0=0,C.length=C'.length,cO=cO,C.length=C'.length,Q1 2 C'.length (λi=>(QG C i).length) (λi=>(QG C' i).length) (λi j=>QA.enc ((QG C i).getD j ⟨0,0⟩)) λi j=>QA.enc ((QG C' i).getD j ⟨0,0⟩)]++(QLe x))):=by kernel_rfl
theorem QH6(w:List QB)(i:Nat):QG (C++[w]) i=if i<C.length then QG C i else if i=C.length then w else []:=by
 unfold QG;rw[List.getD_eq_getElem?_getD,List.getD_eq_getElem?_getD]
 by_cases h:i<C.length
 .rw[if_pos h,List.getElem?_append_left h]
 .rw[if_neg h,List.getElem?_append_right (by omega)]
  by_cases h2:i=C.length
  .subst h2;simp
  .rw[if_neg h2,List.getElem?_eq_none (by simp;omega)];rfl
theorem QT2:QC 2 (1+l.length) (Qa 1 (QU [[AV.int true .i64 (-2),AV.int true .i64 0]] 0) λi=>QA.enc (l.getD i ⟨0,0⟩)) λi=>QA.enc ((je::l).getD i ⟨0,0⟩):=by
 intro i hi;cases i with
 | zero=>exact⟨rfl,rfl,trivial⟩
 | succ i=>
  refine⟨?_,?_,trivial⟩ <;>
   (show Qa 1 _ _ (i+1) _=_
    rw[Vb,if_neg (by omega)]
    simp)
theorem QZ0:Q1 2 (C++[je::l]).length (Va C.length (λi=>(QG C i).length) (1+l.length)) (λi=>(QG (C++[je::l]) i).length)
  (V3 C.length (λi j=>QA.enc ((QG C i).getD j ⟨0,0⟩)) (Qa 1 (QU [[AV.int true .i64 (-2),AV.int true .i64 0]] 0) λi=>QA.enc (l.getD i ⟨0,0⟩))) (λi j=>QA.enc ((QG (C++[je::l]) i).getD j ⟨0,0⟩)):=by
 intro i hi;rw[List.length_append,List.length_singleton]at hi
 by_cases h:i<C.length
 .simp only[Va,V3,j5 h,QH6,if_pos h];exact⟨trivial,qRr⟩
 .have e:i=C.length:=by omega
  simp only[Va,V3,j6 h,QH6,if_neg h,if_pos e];refine⟨by simp;omega,?_⟩
  have:=QT2 l;rw[show(je::l).length=1+l.length by simp;omega]
  exact this
theorem YJ(x:QD):∀ k,(Qn x k).length=k
 | 0=>rfl
 | k+1=>by simp[Qn,YJ x k]
theorem QVT(hn:x.d.ps.n<=900)(hs:x.sK.n<=1000):Kk (λk=>nsJ x (Qn x k) k) (λk=>k<=x.sK.n) (λk=>x.sK.n-k) (λ_ e J=>e = .exit 0/\J=nsE x (Qn x x.sK.n)) 8 QP4 [] (mkE prog Xl) (λ_=>hnd (mkE prog Xl) 0) (QT f74 0):=by
 refine⟨λk g hk=>Qp (QaQ x _ k g) ?_⟩;have hlen:=YJ x k;refine QH ?_ ?_<;>intro h
 .have h:k<x.sK.n:=by have:=qdt h;omega
  have hw:i64.wrap ((k:Int)+1)=((k+1:Nat):Int):=(w64 (by omega) (by omega)).trans (by omega)
  have hl:=Z9 x.d (x.sK.get k) x.d.ps.n;refine QF (by simp;omega) (QF (by simp;omega) (QF (by simp;omega) (QF (by simp;omega) (QF (by simp;omega) ?_))))
  refine⟨k+1,h,by show x.sK.n-(k+1)<x.sK.n-k;omega,λ_ _ h=>h,rfl,rfl,_,QYy x (Qn x k) (Qn x (k+1)) k (k+1),?_⟩
  have e2:(Qn x k).length+1=(Qn x (k+1)).length:=by rw[YJ,YJ]
  repeat' first|exact tv|exact hw|exact e2|exact QZ0 _ _|refine aI ?_ ?_
 .have:k=x.sK.n:=by have:=qdf h;omega
  subst this;refine⟨_,⟨rfl,rfl⟩,rfl,rfl,_,QgV x _ _,?_⟩
  repeat' first|exact tv|refine aI ?_ ?_
abbrev nsH(P:Program)(x:QD)(C:List (List QB)):Hnd:={ hnd (mkE P Xl) 1 with loop:=λ_=>Q4 8 [] (nsJ x [] (0:Nat)) [(True,.exit 0,nsE x C)] }
theorem Qdq(hn:x.d.ps.n<=900)(hs:x.sK.n<=1000)(G:Ctx)(hrd:G.rd=none)(hG:G.n=8):Q8 (mkE prog Xl) G (nsH prog x (Qn x x.sK.n)) (Qi f74):=by
 refine Kg (body:=QT f74 0) (QL zT) hrd (by kernel_rfl) ?_
 refine Kr (n0:=8) (QL zT) (by omega) (λs hs=>Qw (QL zT) 0 G _ hrd) (λs hs=>(by decide:8<=40)) ?_ (QVT x hn hs) (s0:=0) (Nat.zero_le _) ?_
 .rintro s e J ⟨_,rfl⟩;exact(by decide:8<=40)
 .rintro e J ⟨rfl,rfl⟩;exact⟨_,qmc,trivial,rfl,rfl⟩
def nsU:UC:=⟨8,⟨1,[(0,.agg (K2 0 x))],JC 0 x,8⟩,λm=>.ptr m 0 0,λm=>srO m (m+1) x C⟩
abbrev QJj:List CK:=
  [.int .i64,.int .i64,.int .i64,.int .i64,.int .i64,.int .i64,.int .i64,.int .i64,.int .i64,.int .i64,.int .i64,.int .i64,.int .i64,.int .i64,.int .i64,.int .i64,.int
  .i64,.int .i64,.int .i64,.int .i64,.int .i64,.int .i64,.int .i64,.int .i64,.int .i64,.int .i64,.int .i64,.int .i64]
noncomputable abbrev QST(x:QD):List (Nat×Blk):=
  [(16,.cells 0 149 [vi x.d.pK.length,vi x.d.pK.aK,vi x.d.pK.oK,vi x.d.pK.dK.lo,.int false .i64
  x.d.pK.dK.hi,vi x.d.wide,vi x.d.high,.bool false x.d.turn,.slz 0 0 x.d.ps.n cO,.slz 1 0 x.sK.n cO,.slz 2 0 x.hang.n (Cap.of
  0),vi x.lost,vi x.fK,.slz 24 0 C.length cO]),(0,.frz QJj x.d.ps.n λi=>QA.enc (x.d.ps.get i)),(1,.frz QJj x.sK.n λi=>
  QA.enc (x.sK.get i)),(2,.frz [.int .i64,.int .i64,.int .i64,.int .i64] x.hang.n λi=>QA.enc (x.hang.get i)),(24,.frz2 true 38 kB C.length (fun
  i=>(QG C i).length) λi j=>QA.enc ((QG C i).getD j ⟨0,0⟩))]
theorem Qg1 :Js (mkE prog Xl) (nsH prog x C) f74 (nsU x C) = .ak [0=0,0=0,0=0,0=0,0=0,x.sK.n=x.sK.n,cO=cO,(x.sK.n:Int)=(x.sK.n:Int),(0:Int)=0] (.ak (xq x) (.ak (xq x) (.ak [0=0,0=0] (.ak (xp x) (.asm (True) (.all (λ(g0:Nat->Value)=>.leaf (.ptr 16 0 0) ((QST C x))))))))):=by kernel_rfl
theorem QVL :QI 8 [(.ptr 16 0 0)] ((QST C x)) (Kb (nsU x C))=(some ([0=0,0=0]++(xq x++([0=0,C.length=C.length, cO=cO,C.length=C.length,Q1 2 C.length (λi=>(QG C i).length) (λi=>(QG C i).length) (λi j=>QA.enc ((QG C i).getD j ⟨0,0⟩)) λi j=>QA.enc ((QG C i).getD j ⟨0,0⟩)])))):=by kernel_rfl
theorem qo(nid:Nat):JR 8 8 nid (8+k)=nid+k:=by
 have:Nat.blt (8+k) 8=false:=j6 (by omega)
 simp only[JR,this];omega
theorem zj{i:Nat}(h:i<8)(nid:Nat):JR 8 8 nid i=i:=by
 simp only[JR,j5 h]
theorem QaX:(nsU x C).Ok:=by
 refine⟨(by decide:8<=8),rfl,rfl,?_,rfl,λnid h=>?_,λnid h=>?_⟩
 .intro q hq;simp only[UC.po,nsU,srO,Jm,List.mem_cons,List.not_mem_nil,or_false]at hq;rcases hq with rfl|rfl
  .exact⟨rfl,rfl,rfl,λh=>absurd (show 8<8 from h) (by decide)⟩
  .exact⟨rfl,rfl,rfl,λh=>absurd (show 9<8 from h) (by decide)⟩
 .have e0:=qo 0 nid;simp only[UC.va,nsU,AV.mapId,Nat.add_zero]at e0 ⊢;rw[e0]
 .have e0:=qo 0 nid;have e1:=qo 1 nid;have l0:=zj (i:=0) (by decide) nid
  have l1:=zj (i:=1) (by decide) nid
  have l2:=zj (i:=2) (by decide) nid
  simp only[UC.po,nsU,srO,Jm,K2,KD.val,List.cons_append,List.nil_append,List.map_cons,List.map_nil,Blk.mapId,AV.mapId,AV.mapIdL,Nat.add_zero,Nat.zero_add]at e0 e1 l0 l1 l2 ⊢;rw[e0,e1,l0,l1,l2]
theorem QUX(hn:x.d.ps.n<=900)(hs:x.sK.n<=1000):QO prog 74 (uFC (nsU x (Qn x x.sK.n))):=by
 refine JT (E:=mkE prog Xl) (QL zT) func74 (by kernel_rfl) (by kernel_rfl) (QaX ..) (Qdq x hn hs) ⟨?_⟩
 generalize Qn x x.sK.n=C;refine Qp (Qg1 x C) ?_
 repeat' first|refine QF rfl ?_|refine QX (p:=_=_) rfl ?_|refine QX (p:=_<=_) (qlr _) ?_|refine QX (p:=QC _ _ _ _) (qRr) ?_|refine QX (p:=Q1 _ _ _ _ _ _) (QS _ _ _ _) ?_
 refine KB λ_=>Q7 λg=>⟨rfl,rfl,_,QVL x C,?_⟩
 repeat' first|exact tv|refine aI ?_ ?_
