/- - -/
import Derived.Test.YtbpffdkemeoajaaMaz
open Go.IntKind (i64)
set_option maxRecDepth 100000
namespace Go.Proofs.Ytbpffdkemeoajaa
open Go.SX
def noH:Int→Bool:=fun _=>false
variable (pb:List Prop→Bool)(f:List QB)(x:QE)(l:List QB)(k:Nat)(moved turned n:Int)
def JW:Int:=i64.wrap (i64.wrap (1*2^min x.d.ps.n 64)-1)
def Ko(U:UC):Tab:=Qe Qn 49 (Jj pb U)
def GC(C:List (List QB))(U:UC):Tab:=Qe (Ko pb (opO x C)) 77 (Jj pb U)
theorem QWU(e:Int):Kc (mkE Try.prog (Ko pb (opE x e))) (hnd (mkE Try.prog (Ko pb (opE x e))) 1) Try.f23 (QX.vals 0 ((x,()):QE×Unit)) (QX.blks 0 ((x,()):QE×Unit)) 8 =
  QD.need (pb ([x.d.play.length = x.d.play.length, x.d.play.slack = x.d.play.slack, x.d.play.loose = x.d.play.loose, x.d.play.damp.lo = x.d.play.damp.lo, x.d.play.damp.hi = x.d.play.damp.hi, x.d.wide = x.d.wide, x.d.high = x.d.high, x.d.turn = x.d.turn, (0 : Nat) = (0 : Nat), x.d.ps.n = x.d.ps.n, Cap.of (0 : Nat) = Cap.of (0 : Nat), (0 : Nat) = (0 : Nat), x.scans.n = x.scans.n, Cap.of (0 : Nat) = Cap.of (0 : Nat), (0 : Nat) = (0 : Nat), x.hang.n = x.hang.n, Cap.of (0 : Nat) = Cap.of (0 : Nat), x.lost = x.lost, x.foreign = x.foreign, x.d.ps.n ≤ x.d.ps.n, QC (28 : Nat) x.d.ps.n (fun i => QA.enc (x.d.ps.get i)) fun i => QA.enc (x.d.ps.get i), x.scans.n ≤ x.scans.n, QC (28 : Nat) x.scans.n (fun i => QA.enc (x.scans.get i)) fun i => QA.enc (x.scans.get i), x.hang.n ≤ x.hang.n, QC (4 : Nat) x.hang.n (fun i => QA.enc (x.hang.get i)) fun i => QA.enc (x.hang.get i)])) (QD.br (e != (0 : Int)) (QD.leaf (AV.tup [AV.int true i64 (0 : Int), AV.int true i64 (0 : Int), AV.int false i64 e]) ([])) (QD.need (decide ((0 : Int) ≤ (↑x.d.ps.n : Int))) (QD.fail ("a call without a contract")))) := by kernel_rfl
theorem QbE(C:List (List QB))(has':Int→Bool)(many' sure' may':Int):Kc (mkE Try.prog (GC pb x C (msU x C (JW x) (QM Try.f53 0).1 (QM Try.f53 0).2 [] noH 0 (JW x) 0 has' many' sure' may'))) (hnd (mkE Try.prog (GC pb x C (msU x
  C (JW x) (QM Try.f53 0).1 (QM Try.f53 0).2 [] noH 0 (JW x) 0 has' many' sure' may'))) 8) Try.f23 (QX.vals 0 ((x,()):QE×Unit)) (QX.blks 0 ((x,()):QE ×
  Unit)) 8 = .need (pb ([x.d.play.length=x.d.play.length,x.d.play.slack=x.d.play.slack,x.d.play.loose=x.d.play.loose,x.d.play.damp.lo=x.d.play.damp.lo,x.d.play.damp.hi =
  x.d.play.damp.hi,x.d.wide=x.d.wide,x.d.high=x.d.high,x.d.turn=x.d.turn,0=0,x.d.ps.n=x.d.ps.n,cO=cO,0=0,x.scans.n=x.scans.n,cO=cO,
  0=0,x.hang.n=x.hang.n,cO=cO,x.lost=x.lost,x.foreign=x.foreign,x.d.ps.n≤x.d.ps.n,QC 28 x.d.ps.n (fun i=>QA.enc (x.d.ps.get i)) fun i=>QA.enc
  (x.d.ps.get i),x.scans.n≤x.scans.n,QC 28 x.scans.n (fun i=>QA.enc (x.scans.get i)) fun i=>QA.enc (x.scans.get i),x.hang.n≤x.hang.n,QC 4 x.hang.n (fun i=>
  QA.enc (x.hang.get i)) fun i=>QA.enc (x.hang.get i)])) (.need (decide ((0:Int)≤(x.d.ps.n:Int))) (.need (pb ([0=0,0=0,0=0,0=0,0=0,0=0,0=0,0=0,0 =
  0,0=0,0=0,0=0,([]:List MapEntry)=[],qD (.int true .i64 0) noH fun i => .int false .i64 (QH [] i),LoopState.ready=LoopState.ready,(none:Option Code) =
  none,Array.mk [12]=Array.mk [12],(QM Try.f53 0).1=(QM Try.f53 0).1,(QM Try.f53 0).2=(QM Try.f53 0).2,0=0,0=0,(0:Int)=0,Fn.func 54=Fn.func 54,
  0=0,0=0,0=0,0=0,0=0,0=0,0=0,0=0,0=0,0=0,(0:Int)=0,false=false,0=0,0=0,0=0,0=0,Fn.func 76=Fn.func 76,0=0,0=0,(0:Int)=0,
  (0:Int)=0,i64.wrap (i64.wrap ((1:Int)*2^min x.d.ps.n 64)-1)=JW x,(0:Int)=0,Fn.func 77=Fn.func 77,0=0,0=0,0=0,0=0,0=0,0=0,
  0=0,0=0,0=0,0=0,0=0,0=0,Fn.func 54=Fn.func 54,0=0,0=0,0=0,0=0,0=0,0=0,i64.wrap (i64.wrap ((1:Int)*2^min x.d.ps.n 64) -
  1)=JW x,x.d.play.length=x.d.play.length,x.d.play.slack=x.d.play.slack,x.d.play.loose=x.d.play.loose,x.d.play.damp.lo=x.d.play.damp.lo,x.d.play.damp.hi =
  x.d.play.damp.hi,x.d.wide=x.d.wide,x.d.high=x.d.high,x.d.turn=x.d.turn,0=0,x.d.ps.n=x.d.ps.n,cO=cO,0=0,x.scans.n=x.scans.n,cO=cO,
  0=0,x.hang.n=x.hang.n,cO=cO,x.lost=x.lost,x.foreign=x.foreign,0=0,C.length=C.length,cO=cO,C.length=C.length,Kd 2 C.length
  (fun i=>(QJ C i).length) (fun i=>(QJ C i).length) (fun i j=>QA.enc ((QJ C i).getD j ⟨0,0⟩)) fun i j=>QA.enc ((QJ C i).getD j ⟨0,0⟩),x.d.ps.n≤x.d.ps.n,
  QC 28 x.d.ps.n (fun i=>QA.enc (x.d.ps.get i)) fun i=>QA.enc (x.d.ps.get i),x.scans.n≤x.scans.n,QC 28 x.scans.n (fun i=>QA.enc (x.scans.get i)) fun i=>
  QA.enc (x.scans.get i),x.hang.n≤x.hang.n,QC 4 x.hang.n (fun i=>QA.enc (x.hang.get i)) fun i=>QA.enc (x.hang.get i)])) (.br (!decide (many'>0)) (.leaf (.tup [.int
  true .i64 0,vj 0,vj 6]) ([])) (.leaf (.tup [vi sure',vi may',vj 0]) ([]))))):=by kernel_rfl
theorem QW6(e a b c:Int):QK 8 [(AV.tup [AV.int true i64 (0:Int),AV.int true i64 (0:Int),AV.int false i64 e])] ([]) (Km 8 (.tup [vi a,vi b,vi c]) [])=(
  some [(0:Int)=a,(0:Int)=b,e=c]):=by kernel_rfl
theorem Qao(a b c:Int):QK 8 [(AV.tup [AV.int true i64 (0:Int),AV.int true i64 (0:Int),AV.int true i64 (6:Int)])] ([]) (Km 8 (.tup [vi a,vi b,vi c]) [])=(
  some [(0:Int)=a,(0:Int)=b,(6:Int)=c]):=by kernel_rfl
theorem QTA(sure' may' a b c:Int):QK 8 [(AV.tup [AV.int false i64 sure',AV.int false i64 may',AV.int true i64 (0:Int)])] ([]) (Km 8 (.tup [vi a,vi b,vi c]) [])=(
  some [sure'=a,may'=b,(0:Int)=c]):=by kernel_rfl
theorem QTp{q:Bool}{l:List QB}{c t:Nat}{y:QB}(h:y∈Xw q l c t):y∈l∨y=⟨c,t⟩:=by
 cases q with
 | true=>simpa[Xw]using h
 | false=>exact .inl h
theorem QJj{d:Puz}{s:QG}{l:List QB}{c:Nat}{y:QB}:∀{t:Nat},y∈KX d s l c t→y∈l∨∃ u,u<t∧y=⟨c,(u:Nat)⟩
 | 0,h => .inl h
 | t+1,h=>by
  simp only[KX]at h;rcases QTp h with h|h
  ·rcases QJj h with h|⟨u,h1,h2⟩
   ·exact .inl h
   ·exact .inr ⟨u,by omega,h2⟩
  ·exact .inr ⟨t,by omega,h⟩
theorem QFn{d:Puz}{s:QG}{y:QB}:∀{c:Nat},y∈KR d s c→∃ k u:Nat,k<c∧u<4∧y=⟨(k:Nat),(u:Nat)⟩
 | 0,h=>by cases h
 | c+1,h=>by
  simp only[KR]at h;rcases QJj h with h|⟨u,h1,h2⟩
  ·obtain⟨k,u,a,b,e⟩:=QFn h;exact⟨k,u,by omega,b,e⟩
  ·exact⟨c,u,by omega,h1,h2⟩
theorem QW8{x:QE}(hn:x.d.ps.n≤9){k:Nat}{y:QB}(h:y∈ZV x k):K4 y:=by
 simp only[ZV,List.mem_cons]at h;rcases h with rfl|h
 ·exact⟨.inl rfl,by decide⟩
 ·obtain⟨c,u,h1,h2,rfl⟩:=QFn h;exact⟨.inr ⟨by simp only;omega,by simp only;omega⟩,by simp only;omega,by simp only;omega⟩
theorem vd{x:QE}:∀{k i:Nat},i<k→QJ (Qo x k) i=ZV x i
 | k+1,i,h=>by
  rw[Qo,QD0,Zh]
  by_cases e:i<k
  ·rw[if_pos e];exact vd e
  ·have:i=k:=by omega
   subst this;rw[if_neg e,if_pos rfl]
theorem QEC{C:List (List QB)}{i:Nat}(h:C.length≤i):QJ C i=[]:=by
 unfold QJ;rw[List.getD_eq_getElem?_getD,List.getElem?_eq_none h];rfl
theorem QCD{x:QE}(hn:x.d.ps.n≤9):Xt x (Qo x x.scans.n):=by
 refine⟨Zh _ _,fun i => ?_,fun i c hc => ?_⟩
 ·by_cases h:i<x.scans.n
  ·rw[vd h];have:=Gt x.d (x.scans.get i) x.d.ps.n;simp only[ZV,List.length_cons];omega
  ·rw[QEC (by rw[Zh];omega)];simp
 ·by_cases h:i<x.scans.n
  ·rw[vd h]at hc;exact QW8 hn hc
  ·rw[QEC (by rw[Zh];omega)]at hc;cases hc
theorem QAD(b:Bool):qD (.int b .i64 0) noH (YK []):=⟨rfl,fun _=>rfl,fun _=>⟨fun _=>rfl,rfl⟩⟩
def miS:Res MsS:=onT x (Qo x x.scans.n) (msY (JW x)) x.scans.n [] (0,JW x,0) noH
def miV:Int×Int×Int:=match x.ok with
 | false=>(0,0,1)
 | true=>match K5 x with
  | true=>(0,0,11)
  | false=>match miS x with
   | .stop _ _=>(0,0,6)
   | .go s _=>match decide (s.1>0)with
    | true=>(s.2.1,s.2.2,0)
    | false=>(0,0,6)
def miF:WF (QE×Unit):=fun|(x,_)=>(decide (x.d.ps.n≤1000∧x.scans.n≤1000∧x.hang.n≤1000),.tup [.int false .i64 (miV x).1,.int false .i64 (miV x).2.1,.int false .i64 (miV x).2.2],[])
def miC:FC:=wFC miF
theorem QJ0(e:Int)(ht:QQ Try.prog 49 (uFC (opE x e)))(he:e≠0)(hv:miV x=(0,0,e)):QQ Try.prog 23 (wFC (Jq miF (x,()))):=by
 have hT:Qc (Ko QS (opE x e)):=Q6.add ht;refine X8 (c:=Qr Try.f23) (E:=mkE Try.prog (Ko QS (opE x e))) (H:=hnd (mkE Try.prog (Ko QS (opE x e))) 1) (QT hT) Try.func23 (by kernel_rfl) (by kernel_rfl) (N:=8) (by decide) (x,()) (fun G h1 _=>Qz (QT hT) 1 G _ h1) ⟨rfl,by simp[miF],rfl⟩ ?_
 refine Q0 (QWU QS x e) ?_;refine QF (Q4.2 ?_) (QI (fun _ => ?_) (fun h=>by simp at h;exact absurd h he))
 ·repeat' first|with_reducible refine QN ?_ ?_|exact trivial|with_reducible rfl|exact qlr _|exact qRr|refine And.intro ?_ ?_
 ·refine⟨rfl,rfl,_,QW6 e (miV x).1 (miV x).2.1 (miV x).2.2,?_⟩;rw[hv];exact⟨rfl,rfl,rfl,trivial⟩
theorem QRt(hs:Xr x)(hx:x.ok=true)(hr:K5 x=false):QQ Try.prog 23 (wFC (Jq miF (x,()))):=by
 have hg:=Vn hx;have hC:=QCD (x:=x) hg.d.n9;obtain⟨s,h,he⟩:=ZL (C:=Qo x x.scans.n) (x:=x) (Y:=msY (JW x)) (fun _ _=>rfl) x.scans.n [] (0,JW x,0) noH;have hon:=QQE hg hC (JW x) x.scans.n [] (0,JW x,0) noH (by simp) (fun c hc=>by cases hc)
 rw[he]at hon;have hT:Qc (GC QS x (Qo x x.scans.n) (msU x (Qo x x.scans.n) (JW x) Yp YZ [] noH 0 (JW x) 0 h s.1 s.2.1 s.2.2)):=(Q6.add (jb x hs hx hr)).add hon
 have hv:miV x=match decide (s.1>0)with
   | true=>(s.2.1,s.2.2,0)
   | false=>(0,0,6):=by
  simp only[miV,hx,hr,miS,he]
 refine X8 (c:=Qr Try.f23) (E:=mkE Try.prog (GC QS x (Qo x x.scans.n) (msU x (Qo x x.scans.n) (JW x) Yp YZ [] noH 0 (JW x) 0 h s.1 s.2.1 s.2.2))) (H:=hnd (mkE Try.prog (GC QS x (Qo x x.scans.n) (msU x (Qo x x.scans.n) (JW x) Yp YZ [] noH 0 (JW x) 0 h s.1 s.2.1 s.2.2))) 8) (QT hT) Try.func23 (by kernel_rfl) (by kernel_rfl) (N:=8) (by decide) (x,()) (fun G h1 _=>Qz (QT hT) 8 G _ h1) ⟨rfl,by simp[miF],rfl⟩ ?_
 refine Q0 (QbE QS x (Qo x x.scans.n) h s.1 s.2.1 s.2.2) ?_;refine QF (Q4.2 ?_) (QF (by simp) (QF (Q4.2 ?_) (QI (fun q => ?_) (fun q => ?_))))
 ·repeat' first|with_reducible refine QN ?_ ?_|exact trivial|with_reducible rfl|exact qlr _|exact qRr|exact QZ _ _ _ _|refine And.intro ?_ ?_
 ·repeat' first|with_reducible refine QN ?_ ?_|exact trivial|with_reducible rfl|exact qlr _|exact qRr|exact QZ _ _ _ _|exact QAD _|exact(show _=JW _ from rfl)|refine And.intro ?_ ?_
 ·have q:decide (s.1>0)=false:=by simpa using q
  refine⟨rfl,rfl,_,Qao (miV x).1 (miV x).2.1 (miV x).2.2,?_⟩;rw[hv,q];exact⟨rfl,rfl,rfl,trivial⟩
 ·have q:decide (s.1>0)=true:=by simpa using q
  refine⟨rfl,rfl,_,QTA s.2.1 s.2.2 (miV x).1 (miV x).2.1 (miV x).2.2,?_⟩;rw[hv,q];exact⟨rfl,rfl,rfl,trivial⟩
theorem QS4(hx:(miF (x,())).1=true):QQ Try.prog 23 (wFC (Jq miF (x,()))):=by
 obtain⟨h1,h2,h3⟩:=qdt hx;have hs:Xr x:=⟨h1,h2,h3⟩;cases ho:x.ok with
 | false=>exact QJ0 x 1 (QBM x hs ho) (by decide) (by simp only[miV,ho])
 | true=>cases hr:K5 x with
  | true=>exact QJ0 x 11 (QAq x hs ho hr) (by decide) (by simp only[miV,ho,hr])
  | false=>exact QRt x hs ho hr
theorem QRA:QQ Try.prog 23 miC:=Gg (by kernel_rfl) fun|(x,()),hx=>QS4 x hx
theorem QLf{σ:Type}{G:σ→Prop}{f:σ→(Int→Bool)→QB→Res σ}(hf:∀ s h c s' h',G s→f s h c = .go s' h'→G s'):∀(l:List QB) (s:σ) (h:Int→Bool) {s':σ} {h':Int→Bool},G s→Jk f l s h = .go s' h'→G s'
 | [],s,h,s',h',hg,e=>by cases e;exact hg
 | c::l,s,h,s',h',hg,e=>by
  rw[Jk]at e;split at e
  ·rename_i s1 h1 e1;exact QLf hf l s1 h1 (hf _ _ _ _ _ hg e1) e
  ·cases e
theorem QC0{σ:Type}{x:QE}{C:List (List QB)}{Y:σ→List QB→σ×Bool}{G:σ→Prop}(hY:∀ s l,G s→l.length=x.scans.n→G (Y s l).1):∀(d:Nat) (l:List QB) (s:σ) (h:Int→Bool) {s':σ} {h':Int→Bool},l.length+d=x.scans.n→G s→onT x C Y d l s h = .go s' h'→G s'
 | 0,l,s,h,s',h',hn,hg,e=>by
  rw[onT,Jp]at e;split at e
  ·cases e;exact hg
  ·have hy:=hY s l hg (by omega)
   split at e
   ·rename_i e1;rw[e1]at hy;cases e;exact hy
   ·cases e
 | d+1,l,s,h,s',h',hn,hg,e=>by
  rw[onT]at e;refine QLf (G:=G) (fun s h c s' h' hg e => ?_) _ s h hg e;unfold Kf at e;split at e
  ·cases e;exact hg
  ·split at e
   ·cases e;exact hg
   ·split at e
    ·rename_i e1;cases e;exact QC0 hY d (l++[c]) s _ (by simp;omega) hg e1
    ·cases e
def clU:UC:=⟨0,⟨1,[(0,.slz 5 0 l.length (.of 0))],[frS 5 l],8⟩,fun m => .slz m 0 l.length (.of 0),fun m=>[rwL m l]⟩
theorem QSv:Jw (mkE Try.prog Qn) (hnd (mkE Try.prog Qn) 1) Try.f56 (clU l) =
  QD.need (decide ((0:Nat)<l.length∧l.length≤l.length)) (QD.need (true&&(decide (l.length≤l.length)&&decide (((0:Nat)+l.length+((0:Nat)+l.length) / (4 :
  Nat)+(192:Nat))*(16:Nat)≤(281474976710656:Nat)∧(0:Nat)+l.length≤(9223372036854775807:Nat)))) (QD.leaf (AV.slz (48:Nat) (0:Nat) ((0:Nat)+l.length)
  (Cap.of (0:Nat))) ([((48:Nat),Blk.rowz true (56:Nat) [CK.int i64,CK.int i64] ((0:Nat)+l.length) (QY (0:Nat) (fun x x_1=>(0:Int)) fun i=>
  QA.enc (l.getD i (QB.mk (0:Int) (0:Int)))))]))):=by kernel_rfl
theorem QS9(n:Nat)(g:Nat→Nat→Int)(l:List QB):QK 8 [.slz 48 0 n cO] [(48,.rowz true 56 [.int .i64,.int .i64] n g)] (Kk (clU l))=(
  some [(0:Nat)=(0:Nat),n=l.length,Cap.of (0:Nat)=Cap.of (0:Nat),l.length≤n,QC (2:Nat) l.length g fun i=>QA.enc (l.getD i (QB.mk (0:Int) (0:Int)))]):=by kernel_rfl
theorem QU7(m n:Nat)(f g:Nat→Nat→Int):QC m n (QY 0 f g) g:=by
 intro i hi;have:QY 0 f g i=g i:=by funext j;rw[VX,if_neg (Nat.not_lt_zero i),Nat.sub_zero]
 rw[this];exact Xe _ _ _
theorem Qa3:(clU l).Ok:=by
 refine⟨(by decide:0≤8),rfl,rfl,?_,rfl,fun nid h => ?_,fun nid h => ?_⟩
 ·intro q hq;simp only[UC.po,clU,rwL,List.mem_cons,List.not_mem_nil,or_false]at hq;subst hq;exact⟨rfl,rfl,rfl,fun h=>absurd (show 8<0 from h) (by decide)⟩
 ·have e0:=Xn 0 8 0 nid (by decide)
  simp only[UC.va,clU,AV.mapId,Nat.add_zero]at e0 ⊢;rw[e0]
 ·have e0:=Xn 0 8 0 nid (by decide)
  simp only[UC.po,clU,rwL,List.map_cons,List.map_nil,Blk.mapId,Nat.add_zero]at e0 ⊢;rw[e0]
theorem QKX(hp:0<l.length)(hl:l.length≤1000):QQ Try.prog 56 (uFC (clU l)):=by
 refine JZ (c:=Qr Try.f56) (E:=mkE Try.prog Qn) (QT Q6) Try.func56 (by kernel_rfl) (by kernel_rfl) (Qa3 l) (fun G h1 _=>Qz (QT Q6) 1 G _ h1) ⟨?_⟩
 refine Q0 (QSv l) ?_;refine QF (by simp;omega) (QF (by simp;omega) ⟨rfl,rfl,_,QS9 _ _ l,?_⟩)
 repeat' first|with_reducible refine QN ?_ ?_|exact trivial|with_reducible rfl|exact Nat.zero_add _|exact QU7 _ _ _ _|omega|refine And.intro ?_ ?_
def tmS(b:Nat)(f:List QB)(moved turned:Int):List (Nat×Blk):=[(120,.cells 0 38 [.slz b 0 f.length (.of 0)]),rwL b f,(112,.cells 0 92 [.int false .i64 moved]),(104,.cells 0 92 [.int false .i64 turned])]
def tmB(b:Nat)(l f:List QB)(moved turned:Int):List (Nat×Blk):=(200,.frz [.int .i64,.int .i64] l.length fun i=>QA.enc (l.getD i ⟨0,0⟩))::tmS b f moved turned
def tmJ(l f:List QB)(n moved turned:Int)(k:Nat):JSt:=⟨44,[(0,.int false .i64 n),(2,.ptr 120 0 0),(3,.ptr 112 0 0),(4,.ptr 104 0 0),(14,.slz 200 0 l.length (.of 0)),(15,.int false .i64 l.length),(16,.int false .i64 k)],tmB 232 l f moved turned,288⟩
def tmE(n moved turned:Int):JSt:=⟨44,[(0,.int false .i64 n)],tmS 232 f moved turned,288⟩
def QOY:Ex→List Nat
 | .normal=>[0,2,3,4,14,15,16]
 | .exit _=>[0]
 | .ret=>[]
def QGv:List Nat:=[120,112,104]
noncomputable abbrev QDR(l:List QB)(n:Int):List AV:=
  [.nilp,.ptr 44 0 0,vi n,.ptr 120 0 0,.ptr 112 0 0,.ptr 104 0 0,.slz 200 0 l.length cO,vi (l.length:Int),vi (i64.wrap
  ((k:Int)+1))]
noncomputable abbrev Zo:Nat×Blk:=
  (120,.cells 0 38 [.slz 232 0 f.length cO])
noncomputable abbrev QHU:Int:=
  (↑(BitVec.ofInt 64 moved ||| BitVec.ofInt 64 (i64.wrap ((1:Int)*2^min k 64))).toNat:Int)
noncomputable abbrev QA9:Nat×Blk:=
  (112,.cells 0 92 [vi (i64.wrap (QHU k moved))])
noncomputable abbrev QDv:Int:=
  (↑(BitVec.ofInt 64 turned ||| BitVec.ofInt 64 (i64.wrap ((1:Int)*2^min k 64))).toNat:Int)
noncomputable abbrev QCp:Nat×Blk:=
  (104,.cells 0 92 [vi (i64.wrap (QDv k turned))])
noncomputable abbrev WV:Nat×Blk:=
  (200,.frz [.int .i64,.int .i64] l.length fun i=>QA.enc (l.getD i ⟨0,0⟩))
noncomputable abbrev ZP:Nat×Blk:=
  (232,.rowz true 56 [.int .i64,.int .i64] f.length fun i=>QA.enc (f.getD i ⟨0,0⟩))
noncomputable abbrev Hv:Nat×Blk:=
  (104,.cells 0 92 [vi turned])
noncomputable abbrev Hh:Nat×Blk:=
  (112,.cells 0 92 [vi moved])
theorem QT6(l f:List QB)(n moved turned:Int)(k:Nat)(g:Nat→Value):exec (mkE Try.prog Qn) (hnd (mkE Try.prog Qn) 3) (Qd Try.f62 0) (JSt.inst (tmJ l f n moved turned k) g) (KS QGv QOY) = .br (decide ((k:Int)<(l.length:Int)))
  (.need (decide ((0:Int)≤(k:Int)∧(k:Int)<(l.length:Int))&&decide (l.length≤l.length)) (.need (decide (k<l.length)) (.need (decide ((0:Int)≤(k:Int)∧(k :
  Int)<(f.length:Int))&&decide (f.length≤f.length)) (.need (decide (k<f.length)) (.br ((l.getD k ⟨0,0⟩).cell != (f.getD k ⟨0,0⟩).cell) (.need (decide ((0:Int)≤(k :
  Int))) (.need (decide ((0:Int)≤(k:Int)∧(k:Int)<(f.length:Int))&&decide (f.length≤f.length)) (.need (decide (k<f.length)) (.br (!((l.getD k ⟨0,0⟩).cell ==
  (f.getD k ⟨0,0⟩).cell&&((l.getD k ⟨0,0⟩).turn==(f.getD k ⟨0,0⟩).turn&&true))) (.need (decide ((0:Int)≤(k:Int))) (.leaf (.tup (QDR k l n)) ([(Zo f),(QA9 k moved),
  (QCp k turned),(WV l),(ZP f)]))) (.leaf (.tup (QDR k l n)) ([(Zo f),(QA9 k moved),(Hv turned),(WV l),(ZP f)])))))) (.need (decide ((0:Int)≤(k:Int)∧(k :
  Int)<(f.length:Int))&&decide (f.length≤f.length)) (.need (decide (k<f.length)) (.br (!((l.getD k ⟨0,0⟩).cell==(f.getD k ⟨0,0⟩).cell&&((l.getD k ⟨0,0⟩).turn ==
  (f.getD k ⟨0,0⟩).turn&&true))) (.need (decide ((0:Int)≤(k:Int))) (.leaf (.tup (QDR k l n)) ([(Zo f),(Hh moved),(QCp k turned),(WV l),(ZP f)]))) (.leaf (.tup
  (QDR k l n)) ([(Zo f),(Hh moved),(Hv turned),(WV l),(ZP f)])))))))))) (.leaf (.tup [.ptr 0 0 0,.ptr 44 0 0,vi n]) ([(Zo f),(Hh moved),(Hv
  turned),(ZP f)])):=by kernel_rfl
noncomputable abbrev QDV(l:List QB)(n:Int):List AV:=
  [vi n,.ptr 120 0 0,.ptr 112 0 0,.ptr 104 0 0,.slz 200 0 l.length cO,vi (l.length:Int),vi (i64.wrap ((k:Int)+1))]
abbrev QBo(k':Nat)(l:List QB):List Prop:=
  [0=0,0=0,0=0,0=0,0=0,l.length=l.length,cO=cO,(l.length:Int)=(l.length:Int),i64.wrap ((k:Int)+1)=(k':Int),l.length ≤
  l.length,QC 2 l.length (fun i=>QA.enc (l.getD i ⟨0,0⟩)) fun i=>QA.enc (l.getD i ⟨0,0⟩),0=0,f.length=f.length,cO=cO,f.length≤f.length,QC 2
  f.length (fun i=>QA.enc (f.getD i ⟨0,0⟩)) fun i=>QA.enc (f.getD i ⟨0,0⟩)]
theorem QWu(l f:List QB)(n moved turned moved' turned':Int)(k k':Nat):QK 216 (QDV k l n) ([(Zo f),(QA9 k moved),(QCp k turned),(WV l),(ZP f)]) (tmJ l f n moved' turned' k')=(some ([n=n,0=0,0=0]++(QBo f k k' l) ++
  [i64.wrap (QHU k moved)=moved',i64.wrap (QDv k turned)=turned'])):=by kernel_rfl
theorem QbP(l f:List QB)(n moved turned moved' turned':Int)(k k':Nat):QK 216 (QDV k l n) ([(Zo f),(QA9 k moved),(Hv turned),(WV l),(ZP f)]) (tmJ l f n moved' turned' k')=(some ([n=n,0=0,0=0]++(QBo f k k' l) ++
  [i64.wrap (QHU k moved)=moved',turned=turned'])):=by kernel_rfl
theorem QaT(l f:List QB)(n moved turned moved' turned':Int)(k k':Nat):QK 216 (QDV k l n) ([(Zo f),(Hh moved),(QCp k turned),(WV l),(ZP f)]) (tmJ l f n moved' turned' k')=(some ([n=n,0=0,0=0]++(QBo f k k' l)++[moved =
  moved',i64.wrap (QDv k turned)=turned'])):=by kernel_rfl
theorem QXE(l f:List QB)(n moved turned moved' turned':Int)(k k':Nat):QK 216 (QDV k l n) ([(Zo f),(Hh moved),(Hv turned),(WV l),(ZP f)]) (tmJ l f n moved' turned' k')=(some ([n=n,0=0,0=0]++(QBo f k k' l)++[moved =
  moved',turned=turned'])):=by kernel_rfl
theorem QX4(n moved turned moved' turned':Int):QK 216 [AV.int false i64 n] ([((120:Nat),Blk.cells (0:Nat) (38:Nat) [AV.slz (232:Nat) (0:Nat) f.length (Cap.of (0:Nat))]),((112:Nat),Blk.cells (0:Nat) (92:Nat) [AV.int false i64 moved]),((104:Nat),Blk.cells (0:Nat) (92:Nat) [AV.int false i64 turned]),((232:Nat),Blk.rowz true (56:Nat) [CK.int i64,CK.int i64] f.length fun i=>QA.enc (f.getD i (QB.mk (0:Int) (0:Int))))]) (tmE f n moved' turned')=(
  some [n=n,(0:Nat)=(0:Nat),f.length=f.length,Cap.of (0:Nat)=Cap.of (0:Nat),f.length≤f.length,QC (2:Nat) f.length (fun i=>QA.enc (f.getD i (QB.mk (0
  : Int) (0:Int)))) fun i=>QA.enc (f.getD i (QB.mk (0:Int) (0:Int))),moved=moved',turned=turned']):=by kernel_rfl
def Xv(l f:List QB)(k:Nat):Bool := !((l.getD k ⟨0,0⟩).cell==(f.getD k ⟨0,0⟩).cell&&((l.getD k ⟨0,0⟩).turn==(f.getD k ⟨0,0⟩).turn&&true))
def mvL(l f:List QB)(m:Int):Nat→Int
 | 0=>m
 | k+1=>match (l.getD k ⟨0,0⟩).cell != (f.getD k ⟨0,0⟩).cell with
  | true=>VT (mvL l f m k) k
  | false=>mvL l f m k
def tuL(l f:List QB)(m:Int):Nat→Int
 | 0=>m
 | k+1=>match Xv l f k with
  | true=>VT (tuL l f m k) k
  | false=>tuL l f m k
theorem QY7(l f:List QB)(n moved turned:Int)(hl:l.length≤1000)(hf:l.length≤f.length):Ji (fun k=>tmJ l f n (mvL l f moved k) (tuL l f turned k) k) (fun k=>k≤l.length) (fun k=>l.length-k) (fun _ e J=>e = .exit 0∧J=tmE f n (mvL l f moved l.length) (tuL l f turned l.length)) 216 QOY QGv (mkE Try.prog Qn) (fun _=>hnd (mkE Try.prog Qn) 3) (Qd Try.f62 0):=by
 refine⟨fun k g hk=>Q0 (QT6 l f n (mvL l f moved k) (tuL l f turned k) k g) ?_⟩;refine QI (fun h => ?_) (fun h => ?_)
 ·have h:k<l.length:=by have:=qdt h;omega
  have hw:=K6 h hl;refine QF (by simp;omega) (QF (by simp;omega) (QF (by simp;omega) (QF (by simp;omega) (QI (fun hc => ?_) (fun hc => ?_)))))
  ·refine QF (by simp) (QF (by simp;omega) (QF (by simp;omega) (QI (fun hd=>QF (by simp) ?_) (fun hd => ?_))))
   ·refine⟨k+1,h,by show l.length-(k+1)<l.length-k;omega,fun _ _ h=>h,rfl,rfl,_,QWu l f n (mvL l f moved k) (tuL l f turned k) (mvL l f moved (k+1)) (tuL l f turned (k+1)) k (k+1),?_⟩
    have e1:VT (mvL l f moved k) k=mvL l f moved (k+1):=by simp only[mvL,hc]
    have e2:VT (tuL l f turned k) k=tuL l f turned (k+1):=by simp only[tuL,Xv,hd]
    repeat' first|with_reducible refine QN ?_ ?_|exact trivial|with_reducible rfl|exact qlr _|exact qRr|exact hw|exact e1|exact e2|refine And.intro ?_ ?_
   ·refine⟨k+1,h,by show l.length-(k+1)<l.length-k;omega,fun _ _ h=>h,rfl,rfl,_,QbP l f n (mvL l f moved k) (tuL l f turned k) (mvL l f moved (k+1)) (tuL l f turned (k+1)) k (k+1),?_⟩
    have e1:VT (mvL l f moved k) k=mvL l f moved (k+1):=by simp only[mvL,hc]
    have e2:tuL l f turned k=tuL l f turned (k+1):=by simp only[tuL,Xv,hd]
    repeat' first|with_reducible refine QN ?_ ?_|exact trivial|with_reducible rfl|exact qlr _|exact qRr|exact hw|exact e1|exact e2|refine And.intro ?_ ?_
  ·refine QF (by simp;omega) (QF (by simp;omega) (QI (fun hd=>QF (by simp) ?_) (fun hd => ?_)))
   ·refine⟨k+1,h,by show l.length-(k+1)<l.length-k;omega,fun _ _ h=>h,rfl,rfl,_,QaT l f n (mvL l f moved k) (tuL l f turned k) (mvL l f moved (k+1)) (tuL l f turned (k+1)) k (k+1),?_⟩
    have e1:mvL l f moved k=mvL l f moved (k+1):=by simp only[mvL,hc]
    have e2:VT (tuL l f turned k) k=tuL l f turned (k+1):=by simp only[tuL,Xv,hd]
    repeat' first|with_reducible refine QN ?_ ?_|exact trivial|with_reducible rfl|exact qlr _|exact qRr|exact hw|exact e1|exact e2|refine And.intro ?_ ?_
   ·refine⟨k+1,h,by show l.length-(k+1)<l.length-k;omega,fun _ _ h=>h,rfl,rfl,_,QXE l f n (mvL l f moved k) (tuL l f turned k) (mvL l f moved (k+1)) (tuL l f turned (k+1)) k (k+1),?_⟩
    have e1:mvL l f moved k=mvL l f moved (k+1):=by simp only[mvL,hc]
    have e2:tuL l f turned k=tuL l f turned (k+1):=by simp only[tuL,Xv,hd]
    repeat' first|with_reducible refine QN ?_ ?_|exact trivial|with_reducible rfl|exact qlr _|exact qRr|exact hw|exact e1|exact e2|refine And.intro ?_ ?_
 ·have:k=l.length:=by have:=of_decide_eq_false h;omega
  subst this;refine⟨_,⟨rfl,rfl⟩,rfl,rfl,_,QX4 f n (mvL l f moved l.length) (tuL l f turned l.length) _ _,?_⟩
  repeat' first|with_reducible refine QN ?_ ?_|exact trivial|with_reducible rfl|exact qlr _|exact qRr|refine And.intro ?_ ?_
def QDF:Tab:=Qe Qn 56 (Jj pb (clU l))
abbrev tmH(P:Program)(T:Tab)(l f:List QB)(n moved turned moved' turned':Int):Hnd:={ hnd (mkE P T) 1 with loop:=fun _=>KN 216 QGv (tmJ l f n moved turned (0:Nat)) [(True,.exit 0,tmE f n moved' turned')] }
theorem QcL{T:Tab}(hT:Qc T)(l f:List QB)(n moved turned:Int)(hl:l.length≤1000)(hf:l.length≤f.length)(G:Ctx)(hrd:G.rd=none)(hG:G.n=216):KH (mkE Try.prog T) G (tmH Try.prog T l f n moved turned (mvL l f moved l.length) (tuL l f turned l.length)) (Qr Try.f62):=by
 refine Jd (body:=Qd Try.f62 0) (QT hT) hrd (by kernel_rfl) ?_
 refine Ze (E:=mkE Try.prog Qn) rfl (Ju (n0:=216) (QT Q6) (by omega) (fun s hs=>Qz (QT Q6) 3 G _ hrd) (fun s hs=>(by decide:216≤288)) ?_ (QY7 l f n moved turned hl hf) (s0:=0) (Nat.zero_le _) ?_)
 ·rintro s e J ⟨_,rfl⟩;exact(by decide:216≤288)
 ·rintro e J ⟨rfl,rfl⟩;exact⟨_,List.mem_cons_self,trivial,rfl,rfl⟩
def tmU(l f:List QB)(n moved turned:Int)(f2:List QB)(moved' turned':Int):UC:=⟨128,⟨5,[(0,.int false .i64 n),(1,.slz 200 0 l.length (.of 0)),(2,.ptr 120 0 0),(3,.ptr 112 0 0),(4,.ptr 104 0 0)],tmB 208 l f moved turned,216⟩,fun _ => .int false .i64 (i64.wrap (n+1)),fun m=>tmS m f2 moved' turned'⟩
noncomputable abbrev QPM(f2:List QB)(moved':Int)(turned':Int):List (Nat×Blk):=
  [(120,.cells 0 38 [.slz 232 0 f2.length cO]),(112,.cells 0 92 [vi moved']),(104,.cells 0 92 [vi turned']),(232,.rowz true 56 [.int .i64,
  .int .i64] f2.length fun i=>QA.enc (f2.getD i ⟨0,0⟩))]
theorem QY4(l f f2:List QB)(n moved turned moved' turned':Int):Jw (mkE Try.prog (QDF pb l)) (tmH Try.prog (QDF pb l) l f2 n moved turned moved' turned') Try.f62 (tmU l f n moved turned f2 moved' turned') = .br (n==0) (.need (pb ([0 =
  0,l.length=l.length,cO=cO,l.length≤l.length,QC 2 l.length (fun i=>QA.enc (l.getD i ⟨0,0⟩)) fun i=>QA.enc (l.getD i ⟨0,0⟩)])) (.ask (n=n) (.ask
  (0=0) (.ask (0=0) (.ask (0=0) (.ask (0=0) (.ask (0=0) (.ask (0=0) (.ask (0=0) (.ask (l.length=l.length) (.ask (cO=cO) (.ask ((l.length:Int) =
  (l.length:Int)) (.ask ((0:Int)=0) (.ask (l.length≤l.length) (.ask (QC 2 l.length (fun i=>QA.enc (l.getD i ⟨0,0⟩)) fun i=>QA.enc (l.getD i ⟨0,0⟩)) (.ask (0=0)
  (.ask (l.length=f2.length) (.ask (cO=cO) (.ask (f2.length≤l.length) (.ask (QC 2 f2.length (fun i=>QA.enc (l.getD i ⟨0,0⟩)) fun i=>QA.enc (f2.getD i
  ⟨0,0⟩)) (.ask (moved=moved) (.ask (turned=turned) (.asm (True) (.all (fun(g0:Nat→Value) => .leaf (.int false .i64 (i64.wrap (n+1))) ((QPM f2 moved'
  turned'))))))))))))))))))))))))))) (.ask (n=n) (.ask (0=0) (.ask (0=0) (.ask (0=0) (.ask (0=0) (.ask (0=0) (.ask (0=0) (.ask (0=0) (.ask (l.length=l.length) (.ask
  (cO=cO) (.ask ((l.length:Int)=(l.length:Int)) (.ask ((0:Int)=0) (.ask (l.length≤l.length) (.ask (QC 2 l.length (fun i=>QA.enc (l.getD i ⟨0,0⟩))
  fun i=>QA.enc (l.getD i ⟨0,0⟩)) (.ask (0=0) (.ask (f.length=f2.length) (.ask (cO=cO) (.ask (f2.length≤f.length) (.ask (QC 2 f2.length (fun i=>QA.enc
  (f.getD i ⟨0,0⟩)) fun i=>QA.enc (f2.getD i ⟨0,0⟩)) (.ask (moved=moved) (.ask (turned=turned) (.asm (True) (.all (fun(g1:Nat→Value) => .leaf (.int false .i64
  (i64.wrap (n+1))) ((QPM f2 moved' turned')))))))))))))))))))))))))):=by kernel_rfl
theorem QIT(f2:List QB)(l f:List QB)(n moved turned moved' turned':Int):QK 216 [(AV.int false i64 (i64.wrap (n+(1:Int))))] ([((120:Nat),Blk.cells (0:Nat) (38:Nat) [AV.slz (232:Nat) (0:Nat) f2.length (Cap.of (0:Nat))]),((112:Nat),Blk.cells (0:Nat) (92:Nat) [AV.int false i64 moved']),((104:Nat),Blk.cells (0:Nat) (92:Nat) [AV.int false i64 turned']),((232:Nat),Blk.rowz true (56:Nat) [CK.int i64,CK.int i64] f2.length fun i=>QA.enc (f2.getD i (QB.mk (0:Int) (0:Int))))]) (Kk (tmU l f n moved turned f2 moved' turned'))=(
  some [i64.wrap (n+(1:Int))=i64.wrap (n+(1:Int)),(0:Nat)=(0:Nat),f2.length=f2.length,Cap.of (0:Nat)=Cap.of (0:Nat),f2.length≤f2.length,
  QC (2:Nat) f2.length (fun i=>QA.enc (f2.getD i (QB.mk (0:Int) (0:Int)))) fun i=>QA.enc (f2.getD i (QB.mk (0:Int) (0:Int))),moved'=moved',turned' =
  turned']):=by kernel_rfl
theorem QcY(l f:List QB)(n moved turned:Int)(f2:List QB)(moved' turned':Int):(tmU l f n moved turned f2 moved' turned').Ok:=by
 refine⟨(by decide:128≤216),rfl,rfl,?_,rfl,fun _ _=>rfl,fun nid h => ?_⟩
 ·intro q hq;simp only[UC.po,tmU,tmS,rwL,List.mem_cons,List.not_mem_nil,or_false]at hq;rcases hq with rfl|rfl|rfl|rfl<;>refine⟨rfl,rfl,rfl,?_⟩<;>first|exact fun _=>rfl|exact fun h=>absurd (show 216<128 from h) (by decide)
 ·have e0:=Xn 128 216 0 nid (by decide)
  simp only[UC.po,tmU,tmS,rwL,List.map_cons,List.map_nil,Blk.mapId,AV.mapId,AV.mapIdL,Nat.add_zero]at e0 ⊢;rw[e0];rfl
def KI(l f:List QB):List QB:=match n==0 with
 | true=>l
 | false=>f
theorem QSN(l f:List QB)(n moved turned:Int)(hp:0<l.length)(hl:l.length≤1000)(hf:(n==0)=false→f.length=l.length):QQ Try.prog 62 (uFC (tmU l f n moved turned (KI n l f) (mvL l (KI n l f) moved l.length) (tuL l (KI n l f) turned l.length))):=by
 have hT:Qc (QDF QS l):=Q6.add (QKX l hp hl)
 have hf2:l.length≤(KI n l f).length:=by
  unfold KI;split
  ·exact qlr _
  ·rename_i h;rw[hf h];exact qlr _
 have h1:(n==0)=true→KI n l f=l:=fun h=>by unfold KI;rw[h]
 have h2:(n==0)=false→KI n l f=f:=fun h=>by unfold KI;rw[h]
 refine JZ (E:=mkE Try.prog (QDF QS l)) (QT hT) Try.func62 (by kernel_rfl) (by kernel_rfl) (QcY ..) (QcL hT l (KI n l f) n moved turned hl hf2) ⟨?_⟩
 generalize KI n l f=f2 at h1 h2;refine Q0 (QY4 QS l f f2 n moved turned _ _) ?_;refine QI (fun h=>QF (Q4.2 ?_) ?_) (fun h => ?_)
 ·repeat' first|with_reducible refine QN ?_ ?_|exact trivial|with_reducible rfl|exact qlr _|exact qRr|refine And.intro ?_ ?_
 ·obtain rfl:=h1 h
  repeat' first|refine Qb (p:=_=_) rfl ?_|refine Qb (p:=_≤_) (qlr _) ?_|refine Qb (p:=QC _ _ _ _) (qRr) ?_
  refine KO fun _=>KK fun g=>⟨rfl,rfl,_,QIT f2 f2 f n moved turned _ _,?_⟩
  repeat' first|with_reducible refine QN ?_ ?_|exact trivial|with_reducible rfl|exact qlr _|exact qRr|refine And.intro ?_ ?_
 ·obtain rfl:=h2 h
  repeat' first|refine Qb (p:=_=_) rfl ?_|refine Qb (p:=_≤_) (qlr _) ?_|refine Qb (p:=QC _ _ _ _) (qRr) ?_
  refine KO fun _=>KK fun g=>⟨rfl,rfl,_,QIT f2 l f2 n moved turned _ _,?_⟩
  repeat' first|with_reducible refine QN ?_ ?_|exact trivial|with_reducible rfl|exact qlr _|exact qRr|refine And.intro ?_ ?_
end Go.Proofs.Ytbpffdkemeoajaa
