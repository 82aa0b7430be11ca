/- - -/
import Derived.Test.YtekbmehgcofnkaaGreatVzzc
set_option linter.all false
open Go.Proofs.Tryz
open Go.IntKind (i64)
set_option maxRecDepth 100000
namespace Go.Proofs.YtekbmehgcofnkaaGreat
open Go.SX Go.SX.Told
variable (w:Rw QU)
def tuD(d:Puz):Int:=i64.wrap (1000+pkV w 0 d.pK.dK)
def QB8(pb:List Prop->Bool)(w:Rw QU):Tab:=Qc (VS pb w) 30 (pkC pb w)
theorem QUS:Qf (QB8 QK w):=(QCz w).add (QL8 w)
abbrev tmH(P:Program)(pb:List Prop->Bool)(w:Rw QU)(d:Puz)(D:Int)(L:List Lay)(A:Prop):Hnd:={ hnd (mkS P (QB8 pb w)) 1 with loop:=λ_=>Ks (d.ok=true/\Wv w=true) (KF 8 [] (W7 w d D L 1 (0:Nat)) [(True,.ret,GP 696),(A,.exit 0,QI8)]) }
theorem QZK(pb:List Prop->Bool)(w:Rw QU)(d:Puz)(D:Int)(L:List Lay)(A:Prop):Kg (mkS prog (QB8 pb w)) (tmH prog pb w d D L A) f5 (QZ.vals 0 ((d,w,()):Puz×Rw QU×Unit)) (QZ.blks 0 ((d,w,()):Puz×Rw QU×Unit)) 8 = .need (decide (d.ps.n<=d.ps.n)&&(true&&true)&&true) (.need (!!KR d (9:Int)||!KR d (9:Int)) (.need (!!KR d (9:Int)||!KR d (9:Int)) (.need (KR d (9:Int)||!KR d (9:Int)) (.bnd (KR d (9:Int)||(w.n:Int)==0) (λ(x0:Bool)=>.need (!!x0||decide (d.ps.n<=d.ps.n)&&true&&decide (d.ps.n<=1000)&&!x0) (.need (!!x0||!x0) (.need (x0||!x0) (.bnd (x0||!d.ok) (λ(x1:Bool)=>.br (x1) (.leaf (.bool true true) ([])) (.need (decide (d.ps.n<=d.ps.n)&&true&&decide (d.ps.n<=1000)) (.need (decide (d.ps.n<=d.ps.n)&&(decide (w.n<=w.n)&&true)&&(decide (d.ps.n<=1000)&&Wv w)) (.need (!(QO d).2.2.2==0||(QO d).2.2.2==0) (.need (!(QO d).2.2.2==0||(QO d).2.2.2==0) (.need (!(QO d).2.2.2==0||(QO d).2.2.2==0) (.need (!((QO d).2.2.2==0&&!decide ((↑(QO d).2.1.length:Int)>0))||decide ((QO d).1.length<=(QO d).1.length)&&(decide ((otL d w d.ps.n).length<=(otL d w d.ps.n).length)&&true)&&decide ((QO d).1.length<=1000000/\(otL d w d.ps.n).length<=1000000)&&((QO d).2.2.2==0&&!decide ((↑(QO d).2.1.length:Int)>0)&&((QO d).2.2.2==0&&!decide ((↑(QO d).2.1.length:Int)>0)))) (.need (!(QO d).2.2.2==0||(QO d).2.2.2==0&&(decide ((↑(QO d).2.1.length:Int)>0)||(QO d).2.2.2==0&&!decide ((↑(QO d).2.1.length:Int)>0))) (.bnd (decide ((↑(QO d).2.1.length:Int)>0)||X0 (Rw.mk (QO d).1.length λi=>(QO d).1.getD i (Lay.mk (0:Int) (0:Int))) (Rw.mk (otL d w d.ps.n).length λi=>(otL d w d.ps.n).getD i (Lay.mk (0:Int) (0:Int)))) (λ(x2:Bool)=>.need (!(QO d).2.2.2==0||(QO d).2.2.2==0) (.bnd ((QO d).2.2.2==0&&x2) (λ(x3:Bool)=>.br (x3) (.leaf (.bool true true) ([])) (.need (decide (1<=w.n/\(0:Int)<=0/\(0:Int)<=100000/\i64.wrap (i64.wrap (d.pK.dK.hi-d.pK.dK.lo)+1)≠(0:Int))&&pb [(d,w,()).snd.fst.n=w.n,(d,w,()).snd.fst.n=w.n,QB 1 w.n (λi=>QA.enc ((d,w,()).snd.fst.get i)) λi=>QA.enc (w.get i)]) (.ak ([d.ok=true/\Wv w=true,0=0,0=0,0=0,(otL d w d.ps.n).length=L.length,cO=cO,Fn.func 31=Fn.func (31:FuncId),0=0,0=0,0=0,0=0,0=0,0=0,0=0,(otL d w d.ps.n).length=L.length,cO=cO,(↑(otL d w d.ps.n).length:Int)=(L.length:Int),(0:Int)=0,(1:Int)=1,0=0,w.n=w.n,cO=cO,Fn.func 30=Fn.func (30:FuncId),0=0,0=0,0=0,0=0]++waa d++([cO=cO,i64.wrap ((1000:Int)+pkV w (0:Int) d.pK.dK)=D,L.length<=(otL d w d.ps.n).length,QB 2 L.length (λi=>QA.enc ((otL d w d.ps.n).getD i (Lay.mk (0:Int) (0:Int)))) λi=>QA.enc (L.getD i (Lay.mk (0:Int) (0:Int)))]++wad d++[w.n<=w.n,QB 1 w.n (λi=>QA.enc (w.get i)) λi=>QA.enc (w.get i)])) (.both (.asm (True) (.all (λ(g4:Nat->Value)=>.leaf (.bool false true) ([])))) (.asm (A) (.all (λ(g5:Nat->Value)=>.leaf (.bool true false) ([]))))))))))))))))))))))))))):=by kernel_rfl
theorem Qd3{d:Puz}(ho:d.ok=true){L:List Lay}(hL:L∈Q7 d (QH d)):((QO d).2.2.2==0&&(decide (((QO d).2.1.length:Int)>0)||X0 ⟨(QO d).1.length,λi=>(QO d).1.getD i ⟨0,0⟩⟩ ⟨L.length,λi=>L.getD i ⟨0,0⟩⟩))=true:=by
 obtain⟨hd,hpos,h9⟩:=JW (JU ho);have es:=QFo ho;cases hs:Q7 d (QH d)with
 | nil=>rw[hs]at hL;cases hL
 | cons a S=>
  rw[hs]at es hL;cases S with
  | nil=>
   have es:QO d=(a,[],1,0):=es;obtain rfl:L=a:=List.mem_singleton.1 hL;rw[es];show(true&&(decide (((0:Nat):Int)>0)||X0 ⟨L.length,λi=>L.getD i ⟨0,0⟩⟩ ⟨L.length,λi=>L.getD i ⟨0,0⟩⟩))=true
   have:QR (lyQ ⟨L.length,λi=>L.getD i ⟨0,0⟩⟩ ⟨L.length,λi=>L.getD i ⟨0,0⟩⟩) L.length 0=none:=vL λi _ _=>by unfold lyQ;simp
   unfold X0;rw[this];simp
  | cons b S=>
   have es:QO d=(a,b,((min (a::b::S).length 100:Nat):Int),0):=es;have hb:b∈Q7 d (QH d):=by rw[hs];exact List.mem_cons_of_mem _ qmc
   have hbl:=(Vr.1 hb).len;rw[es];show(true&&(decide ((b.length:Int)>0)||_))=true
   rw[qde (by omega)];rfl
theorem QkD{d:Puz}(ho:d.ok=true):(QO d).1.length<=9:=by
 obtain⟨hd,hpos,h9⟩:=JW (JU ho);have es:=QFo ho;cases hs:Q7 d (QH d)with
 | nil=>rw[hs]at es;rw[es];exact Nat.zero_le _
 | cons a S=>
  rw[hs]at es;have ha:a∈Q7 d (QH d):=by rw[hs];exact qmc
  have:=(Vr.1 ha).len;have e:(QO d).1=a:=by rw[es];rfl
  rw[e];omega
theorem QfD(d:Puz)(G:Ctx)(hrd:G.rd=none)(hG:G.n=8):Q0 (mkS prog (QB8 QK w)) G (tmH prog QK w d (tuD w d) (otL d w d.ps.n) (∀ j,0<=j->j<(otL d w d.ps.n).length->XO w d (tuD w d) (otL d w d.ps.n) (tuN d (otL d w d.ps.n) j) j=true)) (Qn f5):=by
 refine KO (body:=QI f5 0) (Zf (QUS w)) hrd (by kernel_rfl) ?_
 refine JJ λhq=>?_;have ho:=hq.1;have hw:=QLS.1 hq.2;have hl:=XM d w d.ps.n
 have hL:∀ i,i<(otL d w d.ps.n).length->Y2 d (tuX (otL d w d.ps.n) i):=λi hi=>by
  unfold tuX;rw[Jb hi,QGQ d w (by omega)]
  exact Qjp (QDI (QJq hw (by omega)).1)
 refine JG (I:=λc=>W7 w d (tuD w d) (otL d w d.ps.n) (tuN d (otL d w d.ps.n) c) c) (n0:=8) (λ_=>rfl) (λ_=>KS (QCz w)) (by omega) (λc _=>QXO w d (tuD w d) (otL d w d.ps.n) hL (tuN d (otL d w d.ps.n) c) c G hrd (by omega)) (λc _=>(by decide:8<=696)) ?_ (QeZ (tuD w d) ho hw.n hl hL) (s0:=0) (Nat.zero_le _) ?_
 .rintro s e J (⟨_,rfl⟩|⟨_,_,rfl⟩)<;>exact(by decide:8<=696)
 .rintro e J (⟨rfl,rfl⟩|⟨rfl,h,rfl⟩)
  .exact⟨_,qmc,trivial,rfl,rfl⟩
  .exact⟨_,List.mem_cons_of_mem _ qmc,h,rfl,rfl⟩
def QB7:Bool:=(List.range w.n).all λi=>decide (0<=(w.get i).n/\(w.get i).n<=65535)
theorem QYu{w:Rw QU}(h:QB7 w=true)(hn:w.n≠0):Wv w=true:=by
 unfold Wv;rw[qde (by omega)]
 exact h
theorem QSx{w:Rw QU}(h:∀ i,i<w.n->0<=(w.get i).n/\(w.get i).n<=65535):QB7 w=true:=by
 unfold QB7;rw[List.all_eq_true];exact λi hi=>qde (h i (List.mem_range.1 hi))
def tmF:WF (Puz×Rw QU×Unit):=λx=>(QB7 x.2.1,.bool false true,[])
theorem QcF(d:Puz)(hp:QB7 w=true):Zn (ZY 8 (AV.bool false true) []) (Kg (mkS prog (QB8 QK w)) (tmH prog QK w d (tuD w d) (otL d w d.ps.n) (∀ j,0<=j->j<(otL d w d.ps.n).length->XO w d (tuD w d) (otL d w d.ps.n) (tuN d (otL d w d.ps.n) j) j=true)) f5 (QZ.vals 0 ((d,w,()):Puz×Rw QU×Unit)) (QZ.blks 0 ((d,w,()):Puz×Rw QU×Unit)) 8):=by
 have nn:∀ b:Bool,(!b||b)=true:=λb=>by cases b<;>rfl
 have n1:∀ b:Bool,(!!b || !b)=true:=λb=>by cases b<;>rfl
 have n2:∀ b:Bool,(b || !b)=true:=λb=>by cases b<;>rfl
 have n3:∀ e y:Bool,(!e||e&&(y||e && !y))=true:=λe y=>by cases e<;>cases y<;>rfl
 have n4:∀ e y r:Bool,r=true->(!(e && !y)||r&&(e && !y&&(e && !y)))=true:=λe y r h=>by rw[h];cases e<;>cases y<;>rfl
 have n0:(!!(KR d 9||(w.n:Int)==0)||decide (d.ps.n<=d.ps.n)&&true&&decide (d.ps.n<=1000) && !(KR d 9||(w.n:Int)==0))=true:=by
  cases hg:KR d 9||(w.n:Int)==0 with
  | true=>rfl
  | false=>
   have hg2:KR d 9=false:=(Bool.or_eq_false_iff.1 hg).1;have:¬ ((d.ps.n:Int)>14):=λh=>by rw[KR,qde h]at hg2;cases hg2
   rw[qde (qlr _),qde (show d.ps.n<=1000 by omega)];rfl
 have hpb:QK [w.n=w.n,w.n=w.n,QB 1 w.n (λi=>QA.enc (w.get i)) λi=>QA.enc (w.get i)]=true:=KG.2 ⟨rfl,rfl,qRr,trivial⟩;have et:=QZK QK w d (tuD w d) (otL d w d.ps.n) (∀ j,0<=j->j<(otL d w d.ps.n).length->XO w d (tuD w d) (otL d w d.ps.n) (tuN d (otL d w d.ps.n) j) j=true);refine Qh et ?_;clear et
 iterate 4 (refine QG ?_ ?_;rotate_left)
 refine Jc λz0 y0=>?_;obtain rfl:z0=(KR d 9||(w.n:Int)==0):=y0.trans (rfl)
 iterate 3 (refine QG ?_ ?_;rotate_left)
 refine Jc λz1 y1=>?_;obtain rfl:z1=((KR d 9||(w.n:Int)==0) || !d.ok):=y1.trans (rfl)
 refine QE ?_ ?_<;>intro b0
 .exact KN rfl rfl
 have hg:(KR d 9=false/\¬ (w.n:Int)=0)/\d.ok=true:=by simpa using b0
 have ho:=hg.2;have hq:Wv w=true:=QYu hp (λe=>hg.1.2 (by omega))
 have hw:=QLS.1 hq;obtain⟨hd,hpos,h9⟩:=JW (JU ho);have hl:=XM d w d.ps.n;have hx:=QkD ho
 have hsp:d.pK.dK.lo<=d.pK.dK.hi/\0<=d.pK.dK.lo/\d.pK.dK.hi<=100:=by
  obtain⟨_,_,_,q1,q2,q3⟩:=Qx.ok_iff.1 (zq ho (p:=0) (i:=0) hpos).2;exact⟨q2,q1,q3⟩
 have hwr:i64.wrap (i64.wrap (d.pK.dK.hi-d.pK.dK.lo)+1)≠0:=by
  rw[w64 (n:=d.pK.dK.hi-d.pK.dK.lo) (by omega) (by omega),w64 (by omega) (by omega)];omega
 have hk:(decide (1<=w.n/\(0:Int)<=0/\(0:Int)<=100000/\i64.wrap (i64.wrap (d.pK.dK.hi-d.pK.dK.lo)+1)≠(0:Int))&&QK [w.n=w.n,w.n=w.n,QB 1 w.n (λi=>QA.enc (w.get i)) λi=>QA.enc (w.get i)])=true:=by
  rw[qde ⟨hw.n,by omega,by omega,hwr⟩,hpb];rfl
 iterate 7 (refine QG ?_ ?_;rotate_left)
 refine Jc λz2 y2=>?_;obtain rfl:z2=(decide (((QO d).2.1.length:Int)>0)||X0 ⟨(QO d).1.length,λi=>(QO d).1.getD i ⟨0,0⟩⟩ ⟨(otL d w d.ps.n).length,λi=>(otL d w d.ps.n).getD i ⟨0,0⟩⟩):=y2.trans (rfl)
 refine QG ?_ ?_;rotate_left;refine Jc λz3 y3=>?_;obtain rfl:z3=((QO d).2.2.2==0&&(decide (((QO d).2.1.length:Int)>0)||X0 ⟨(QO d).1.length,λi=>(QO d).1.getD i ⟨0,0⟩⟩ ⟨(otL d w d.ps.n).length,λi=>(otL d w d.ps.n).getD i ⟨0,0⟩⟩)):=y3.trans (rfl)
 refine QE ?_ ?_<;>intro b1
 .exact KN rfl rfl
 refine QG ?_ ?_;rotate_left
 iterate 45 refine Qt (by first|exact tv|exact⟨ho,hq⟩|with_reducible exact qRr|exact rfl) ?_
 refine Kq ?_ ?_;refine Qk λa0=>?_;refine Ql λg0=>?_
 .exact KN rfl rfl
 refine Qk λa1=>?_;refine Ql λg1=>?_
 .have hA:=a1;have hm:=zF w 0 (s:=d.pK.dK) ⟨by omega,by omega,by omega⟩
  have hD:tuD w d=1000+pkV w 0 d.pK.dK:=w64 (by omega) (by omega)
  have hs:=QhZ ho hw hm hD (λc hc=>hA c (Nat.zero_le _) (by omega))
  have he:=Qd3 ho hs;rw[b1]at he;cases he
 all_goals first|rfl|(rw[qde (qlr _)];rfl)|exact n0|exact n1 _|exact n2 _|exact nn _|exact n3 _ _|exact hk|(refine n4 _ _ _ ?_;rw[qde (qlr _),qde (qlr _),qde (show(QO d).1.length<=1000000/\(otL d w d.ps.n).length<=1000000 by omega)];rfl)|(rw[hq,qde (qlr _),qde (qlr _),qde (show d.ps.n<=1000 by omega)];rfl)|(rw[qde (qlr _),qde (show d.ps.n<=1000 by omega)];rfl)
