/- - -/
import Derived.Test.YtbpffdkemeoajaaMazm
import Derived.Test.YtbpffdkemeoajaaMazj
import Derived.Test.YtbpffdkemeoajaaMazl
open Go.IntKind (i64)
set_option maxRecDepth 100000
namespace Go.Proofs.Ytbpffdkemeoajaa
open Go Go.SX
variable {sl sh lo hi dl:Int}{t a b:Edge}{p:Qm}(pb:List Prop→Bool)(d:Puz)(S:List QB)(L:List Int)(x:QB)(q:QG)(w:Rw QO)(k:Int)(H:Nat→Jn)
def scU(o:QG)(k':Int):UC:=⟨280,⟨3,[(0,.agg (jc d)),(1,Enc.enc x),(2,dwF)],Q3.blk 0 d.ps++atB w k,400⟩,fun _=>Enc.enc o,fun _=>atW w k'⟩
abbrev scH(P:Program)(pb:List Prop→Bool)(d:Puz)(x:QB)(w:Rw QO)(k:Int)(o:QG)(k':Int):Hnd:={ hnd (mkX P (VR pb w)) 1 with loop:=fun _=>KN 400 [272,273] (KT x w (d.ps.get x.cell.toNat) zeP k 0) [(True,.exit 0,QAo w o k')] }
noncomputable abbrev QMz(o:QG):List AV:=
  ((Enc.enc (o:QG)).cells)
theorem QdF(o:QG)(k':Int):Jw (mkX Try.prog (VR pb w)) (scH Try.prog pb d x w k o k') Try.f30 (scU d x w k o k') = .need (decide ((0:Int)≤x.cell∧x.cell<(d.ps.n:Int))&&decide (d.ps.n ≤
  d.ps.n)) (.need (decide (x.cell.toNat<d.ps.n)) (.ask (Fn.func (58:FuncId)=Fn.func (58:FuncId)) (.ask (0=0) (.ask (0=0) (.ask (0=0) (.ask (0=0) (.ask (0=0) (.ask (0
  = 0) (.ask (0=0) (.ask (0=0) (.ask (0=0) (.ask (0=0) (.ask ((d.ps.get x.cell.toNat).up.kind=(d.ps.get x.cell.toNat).up.kind) (.ask ((d.ps.get x.cell.toNat).up.at_.lo =
  (d.ps.get x.cell.toNat).up.at_.lo) (.ask ((d.ps.get x.cell.toNat).up.at_.hi=(d.ps.get x.cell.toNat).up.at_.hi) (.ask ((d.ps.get x.cell.toNat).up.wide.lo=(d.ps.get
  x.cell.toNat).up.wide.lo) (.ask ((d.ps.get x.cell.toNat).up.wide.hi=(d.ps.get x.cell.toNat).up.wide.hi) (.ask ((d.ps.get x.cell.toNat).up.deep.lo=(d.ps.get
  x.cell.toNat).up.deep.lo) (.ask ((d.ps.get x.cell.toNat).up.deep.hi=(d.ps.get x.cell.toNat).up.deep.hi) (.ask ((d.ps.get x.cell.toNat).right.kind=(d.ps.get
  x.cell.toNat).right.kind) (.ask ((d.ps.get x.cell.toNat).right.at_.lo=(d.ps.get x.cell.toNat).right.at_.lo) (.ask ((d.ps.get x.cell.toNat).right.at_.hi=(d.ps.get
  x.cell.toNat).right.at_.hi) (.ask ((d.ps.get x.cell.toNat).right.wide.lo=(d.ps.get x.cell.toNat).right.wide.lo) (.ask ((d.ps.get x.cell.toNat).right.wide.hi=(d.ps.get
  x.cell.toNat).right.wide.hi) (.ask ((d.ps.get x.cell.toNat).right.deep.lo=(d.ps.get x.cell.toNat).right.deep.lo) (.ask ((d.ps.get x.cell.toNat).right.deep.hi=(d.ps.get
  x.cell.toNat).right.deep.hi) (.ask ((d.ps.get x.cell.toNat).down.kind=(d.ps.get x.cell.toNat).down.kind) (.ask ((d.ps.get x.cell.toNat).down.at_.lo=(d.ps.get
  x.cell.toNat).down.at_.lo) (.ask ((d.ps.get x.cell.toNat).down.at_.hi=(d.ps.get x.cell.toNat).down.at_.hi) (.ask ((d.ps.get x.cell.toNat).down.wide.lo=(d.ps.get
  x.cell.toNat).down.wide.lo) (.ask ((d.ps.get x.cell.toNat).down.wide.hi=(d.ps.get x.cell.toNat).down.wide.hi) (.ask ((d.ps.get x.cell.toNat).down.deep.lo=(d.ps.get
  x.cell.toNat).down.deep.lo) (.ask ((d.ps.get x.cell.toNat).down.deep.hi=(d.ps.get x.cell.toNat).down.deep.hi) (.ask ((d.ps.get x.cell.toNat).left.kind=(d.ps.get
  x.cell.toNat).left.kind) (.ask ((d.ps.get x.cell.toNat).left.at_.lo=(d.ps.get x.cell.toNat).left.at_.lo) (.ask ((d.ps.get x.cell.toNat).left.at_.hi=(d.ps.get
  x.cell.toNat).left.at_.hi) (.ask ((d.ps.get x.cell.toNat).left.wide.lo=(d.ps.get x.cell.toNat).left.wide.lo) (.ask ((d.ps.get x.cell.toNat).left.wide.hi=(d.ps.get
  x.cell.toNat).left.wide.hi) (.ask ((d.ps.get x.cell.toNat).left.deep.lo=(d.ps.get x.cell.toNat).left.deep.lo) (.ask ((d.ps.get x.cell.toNat).left.deep.hi=(d.ps.get
  x.cell.toNat).left.deep.hi) (.ask ((0:Int)=0) (.ask ((0:Int)=0) (.ask ((0:Int)=0) (.ask ((0:Int)=0) (.ask ((0:Int)=0) (.ask ((0:Int)=0) (.ask ((0:Int)=0)
  (.ask ((0:Int)=0) (.ask ((0:Int)=0) (.ask ((0:Int)=0) (.ask ((0:Int)=0) (.ask ((0:Int)=0) (.ask ((0:Int)=0) (.ask ((0:Int)=0) (.ask ((0:Int)=0) (.ask
  ((0:Int)=0) (.ask ((0:Int)=0) (.ask ((0:Int)=0) (.ask ((0:Int)=0) (.ask ((0:Int)=0) (.ask ((0:Int)=0) (.ask ((0:Int)=0) (.ask ((0:Int)=0) (.ask ((0 :
  Int)=0) (.ask ((0:Int)=0) (.ask ((0:Int)=0) (.ask ((0:Int)=0) (.ask ((0:Int)=0) (.ask ((0:Int)=0) (.ask ((0:Int)=0) (.ask ((0:Int)=0) (.ask ((0:Int)
  = 0) (.ask ((0:Int)=0) (.ask ((0:Int)=0) (.ask ((0:Int)=0) (.ask ((0:Int)=0) (.ask ((0:Int)=0) (.ask ((0:Int)=0) (.ask ((0:Int)=0) (.ask ((0:Int)=0)
  (.ask ((0:Int)=0) (.ask ((0:Int)=0) (.ask ((0:Int)=0) (.ask ((0:Int)=0) (.ask ((0:Int)=0) (.ask ((0:Int)=0) (.ask ((0:Int)=0) (.ask ((0:Int)=0) (.ask
  ((0:Int)=0) (.ask ((0:Int)=0) (.ask ((0:Int)=0) (.ask ((0:Int)=0) (.ask ((0:Int)=0) (.ask ((0:Int)=0) (.ask ((0:Int)=0) (.ask ((0:Int)=0) (.ask ((0 :
  Int)=0) (.ask (x.cell=x.cell) (.ask (x.turn=x.turn) (.ask (k=k) (.ask (0=0) (.ask (w.n=w.n) (.ask (cO=cO) (.ask (w.n≤w.n) (.ask (QC 1 w.n (fun i=>
  QA.enc (w.get i)) fun i=>QA.enc (w.get i)) (.asm (True) (.all (fun(g0:Nat→Value) => .leaf (.agg (QMz o)) ([(272,.cells 0 3 [vi k']),(273,.cells 0 58
  [.slz 2 0 w.n cO])]))))))))))))))))))))))))))))))))))))))))))))))))))))))))))))))))))))))))))))))))))))))))))))))))))))))))))))):=by kernel_rfl
theorem QTg(o:QG)(k':Int):QK 400 [(.agg (QMz o))] ([(272,.cells 0 3 [vi k']),(273,.cells 0 58 [.slz 2 0 w.n cO])]) (Kk (scU d x w k o k'))=(some [o.up.kind=o.up.kind,
  o.up.at_.lo=o.up.at_.lo,o.up.at_.hi=o.up.at_.hi,o.up.wide.lo=o.up.wide.lo,o.up.wide.hi=o.up.wide.hi,o.up.deep.lo=o.up.deep.lo,o.up.deep.hi=o.up.deep.hi,
  o.right.kind=o.right.kind,o.right.at_.lo=o.right.at_.lo,o.right.at_.hi=o.right.at_.hi,o.right.wide.lo=o.right.wide.lo,o.right.wide.hi=o.right.wide.hi,o.right.deep.lo
  = o.right.deep.lo,o.right.deep.hi=o.right.deep.hi,o.down.kind=o.down.kind,o.down.at_.lo=o.down.at_.lo,o.down.at_.hi=o.down.at_.hi,o.down.wide.lo=o.down.wide.lo,
  o.down.wide.hi=o.down.wide.hi,o.down.deep.lo=o.down.deep.lo,o.down.deep.hi=o.down.deep.hi,o.left.kind=o.left.kind,o.left.at_.lo=o.left.at_.lo,o.left.at_.hi =
  o.left.at_.hi,o.left.wide.lo=o.left.wide.lo,o.left.wide.hi=o.left.wide.hi,o.left.deep.lo=o.left.deep.lo,o.left.deep.hi=o.left.deep.hi,k'=k',0=0,w.n=w.n,Cap.of
  0=cO]):=by kernel_rfl
def kN:Int:=scK (d.ps.get x.cell.toNat) k 4
def oN:QG:=scS x.turn w (d.ps.get x.cell.toNat) k 4
theorem QdR(hx:0≤x.turn∧x.turn<4)(hw:1≤w.n)(hk:0≤k∧k≤90000)(G:Ctx)(hrd:G.rd=none)(hG:G.n=400):KH (mkX Try.prog (VR QS w)) G (scH Try.prog QS d x w k (oN d x w k) (kN d x k)) (Qr Try.f30):=by
 refine Jd (body:=Qd Try.f30 0) (QDj (QCn w)) hrd (by kernel_rfl) ?_
 show J5 (mkX Try.prog (VR QS w)) G _ (KN 400 [272,273] (KT x w (d.ps.get x.cell.toNat) (scS x.turn w (d.ps.get x.cell.toNat) k 0) (scK (d.ps.get x.cell.toNat) k 0) 0) [(True,.exit 0,QAo w (scS x.turn w (d.ps.get x.cell.toNat) k 4) (scK (d.ps.get x.cell.toNat) k 4))]);refine Ju (I:=fun s=>KT x w (d.ps.get x.cell.toNat) (scS x.turn w (d.ps.get x.cell.toNat) k s) (scK (d.ps.get x.cell.toNat) k s) s) (n0:=400) (QDj (QCn w)) (by omega) (fun s hs=>Qz (QDj (QCn w)) 3 G _ hrd) (fun s hs=>(by decide:400≤500)) ?_ (QU3 x w (d.ps.get x.cell.toNat) k hx hw hk) (s0:=0) (Nat.zero_le _) ?_
 ·rintro s e J ⟨_,rfl⟩;exact(by decide:400≤500)
 ·rintro e J ⟨rfl,rfl⟩;exact⟨_,List.mem_cons_self,trivial,rfl,rfl⟩
theorem QUm(hc:0≤x.cell∧x.cell<d.ps.n)(hx:0≤x.turn∧x.turn<4)(hw:1≤w.n)(hk:0≤k∧k≤90000):QQ Try.prog 30 (uFC (scU d x w k (oN d x w k) (kN d x k))):=by
 refine JZ (E:=mkX Try.prog (VR QS w)) (QDj (QCn w)) Try.func30 (c:=Qr Try.f30) (by kernel_rfl) (by kernel_rfl) ?_ (QdR d x w k hx hw hk) ⟨?_⟩
 ·refine⟨(by decide:280≤400),rfl,rfl,?_,rfl,fun _ _=>rfl,fun _ _=>rfl⟩
  intro q hq;simp only[UC.po,scU,atW,List.mem_cons,List.not_mem_nil,or_false]at hq;rcases hq with rfl|rfl<;>exact⟨rfl,rfl,rfl,fun _=>rfl⟩
 refine Q0 (QdF QS d x w k _ _) ?_;refine QF (by simp;omega) (QF (by simp;omega) ?_)
 repeat' first|refine Qb (p:=_=_) rfl ?_|refine Qb (p:=_≤_) (qlr _) ?_|refine Qb (p:=QC _ _ _ _) (qRr) ?_
 refine KO fun _=>KK fun g=>⟨rfl,rfl,_,QTg d x w k (oN d x w k) (kN d x k),?_⟩
 repeat' first|with_reducible refine QN ?_ ?_|exact trivial|with_reducible rfl|exact qlr _|exact qRr|refine And.intro ?_ ?_
def scC:FC:=fun args nid _=>([272,273,0,2],fun blks=>match args,blks with
 | [a,.agg [.int c0 .i64 c,.int c1 .i64 t],f],.cells z ty [.int c2 .i64 k]::bs=>(match (Jj pb (scU d ⟨c,t⟩ w k (oN d ⟨c,t⟩ w k) (kN d ⟨c,t⟩ k)) [a,.agg [.int c0 .i64 c,.int c1 .i64 t],f] nid [272,273,0,2]).2 (.cells z ty [.int c2 .i64 k]::bs)with
  | some e=>some ⟨e.known,decide ((0≤c∧c<d.ps.n)∧(0≤t∧t<4)∧1≤w.n∧0≤k∧k≤90000)&&e.pre,e.val,e.upd⟩
  | none=>none)
 | _,_=>none)
theorem QZ2:QQ Try.prog 30 (scC QS d w):=by
 refine⟨by kernel_rfl,fun args nid all r w' lk blks eff hH ha hv he hp => ?_⟩
 simp only[scC]at he;split at he<;>(try (cases he;done))
 split at he<;>(try (cases he;done))
 rename_i e heq;simp only[qsI]at he;subst he;simp only[qbA,qdE]at hp;obtain⟨⟨h1,h2,h3,h4⟩,hp⟩:=hp;exact(QUm d ⟨_,_⟩ w _ h1 h2 h3 h4).2 _ nid [272,273,0,2] r w' lk _ e hH ha hv heq hp
structure Frc where
 a:List QB
 b:List QB
 cells:List Int
 al:Int
 told:List QB
def rwI(id:Nat)(l:List Int):Nat×Blk:=(id,.rowz true 3 [.int .i64] l.length fun i=>QA.enc (l.getD i (0:Int)))
structure QXl (c al:Int) (k:Nat) (s:QB):Prop where
 f1:(((i64.wrap ((BitVec.ofInt 64 c &&& BitVec.ofInt 64 (i64.wrap (c-1))).toNat:Nat)==0) && !((c != 0)==(Wk al k==1)))==(s.cell != -1))=true
 f2:(decide (s.cell≥0)&&(c != i64.wrap (1*2^min s.cell.toNat 64)))=false
 f3:((s.cell == -2)&&(c != 0))=false
structure Gw (c al:Int) (k:Nat) (s t:QB):Prop where
 f4:((s.cell != -1)&&(t.cell != s.cell))=false
 f5:(decide (t.cell≥0)&&(Wk c t.cell.toNat==0))=false
 f6:((t.cell == -2)&&(Wk al k==0))=false
 f7:((decide (s.cell≥0)&&(s.turn != 0))&&(t.turn != s.turn))=false
def QKP(L:List QB):Nat→Int
 | 0=>0
 | k+1=>i64.wrap ((BitVec.ofInt 64 (QKP L k) ||| BitVec.ofInt 64 (i64.wrap (1*2^min (L.getD k ⟨0,0⟩).cell.toNat 64))).toNat:Nat)
structure QZC (x:QE) (o:Frc) (k:Nat):Prop where
 so:QXl (o.cells.getD k 0) o.al k (o.told.getD k ⟨0,0⟩)
 sa:Gw (o.cells.getD k 0) o.al k (o.told.getD k ⟨0,0⟩) (o.a.getD k ⟨0,0⟩)
 e:jo x.d (x.scans.get k)=0
 l:∀ c∈Yw x.d (x.scans.get k),0≤c.cell
 n:(Yw x.d (x.scans.get k)).length≤1000
 c:(i64.wrap ((BitVec.ofInt 64 (o.cells.getD k 0) &&& ~~~BitVec.ofInt 64 (QKP (Yw x.d (x.scans.get k)) (Yw x.d (x.scans.get k)).length)).toNat:Nat) != 0)=false
structure QY9 (x:QE) (o:Frc):Prop where
 n:x.scans.n≤1000
 d:x.d.ps.n≤900
 c:o.cells.length=x.scans.n
 t:o.told.length=x.scans.n
 a:o.a.length=x.scans.n
 k:∀ k,k<x.scans.n→QZC x o k
structure Qdf (x:QE) (o:Frc):Prop extends QY9 x o where
 b:o.b.length=x.scans.n
 kb:∀ k,k<x.scans.n→Gw (o.cells.getD k 0) o.al k (o.told.getD k ⟨0,0⟩) (o.b.getD k ⟨0,0⟩)
def QJx(n:Nat):Bool:=n==0||(List.range 9).any fun j=>n==2^j
theorem Qbe:∀ n:Fin 512,(i64.wrap ((BitVec.ofInt 64 ((n.val:Nat):Int) &&& BitVec.ofInt 64 (i64.wrap (((n.val:Nat):Int)-1))).toNat:Nat)==0)=QJx n.val:=by decide +kernel
structure QIS (c:Int) (p:Nat→Bool):Prop where
 i:KY c
 b:∀ k,Ql c k=p k
 lt:∀ k,9≤k→p k=false
theorem QYU{c:Int}{p:Nat→Bool}(h:QIS c p):∃ n:Fin 512,c=((n.val:Nat):Int):=by
 obtain⟨h1,h2⟩:=QYo h.i (n:=9) (by omega) (fun k hk=>by rw[h.b,h.lt k hk])
 obtain⟨n,rfl⟩:=Int.eq_ofNat_of_zero_le h1;exact⟨⟨n,by omega⟩,rfl⟩
theorem jf{c:Int}{p:Nat→Bool}(h:QIS c p):(i64.wrap ((BitVec.ofInt 64 c &&& BitVec.ofInt 64 (i64.wrap (c-1))).toNat:Nat)==0)=QJx c.toNat:=by
 obtain⟨n,rfl⟩:=QYU h;rw[Qbe n,Int.toNat_natCast]
section
variable {x:QE}
theorem QUr{t:List QB}{k:Nat}(hx:x.ok=true)(hp:QIL x (Qa x).1 (Qa x).2.1)(hk:k<x.scans.n)(ht:t∈KP x):Gw ((Qa x).1.getD k 0) (Qa x).2.1 k (YC (KP x) k) (t.getD k ⟨0,0⟩):=by
 have htr:=(j6 hx).1 ht;have hs:=(Vn hx).s;have n9:=(Vn hx).d.n9;have hmem:t.getD k ⟨0,0⟩∈t:=QKL (by rw[htr.len];exact hk)
 have hc:=QOi htr _ hmem;refine⟨?_,?_,?_,?_⟩
 ·by_cases e:(YC (KP x) k).cell = -1
  ·simp[e]
  ·have:=QVY e t ht;rw[this];simp
 ·by_cases e:(t.getD k ⟨0,0⟩).cell≥0
  ·have:Ql ((Qa x).1.getD k 0) (t.getD k ⟨0,0⟩).cell.toNat=true:=by
    rw[hp.cb k hk];exact List.any_eq_true.2 ⟨t,ht,by rw[beq_iff_eq];omega⟩
   rw[QEu (hp.ci k) (by omega),if_pos this];simp
  ·rw[decide_eq_false e];rfl
 ·by_cases e:(t.getD k ⟨0,0⟩).cell = -2
  ·have:Ql (Qa x).2.1 k=true:=by
    rw[hp.ab,decide_eq_true hk,Bool.true_and];exact List.any_eq_true.2 ⟨t,ht,by simpa using e⟩
   rw[QEu hp.ai (by omega),if_pos this];simp
  ·rw[show((t.getD k ⟨0,0⟩).cell == -2)=false by simpa using e];rfl
 ·by_cases e:(YC (KP x) k).turn=0
  ·simp[e]
  ·have e2:(YC (KP x) k).turn=(t.getD k ⟨0,0⟩).turn:=by
    unfold YC at e ⊢;cases q:(KP x).any fun l=>(l.getD k ⟨0,0⟩).cell != (((KP x).headD []).getD k ⟨0,0⟩).cell with
    | true=>rw[q]at e;exact absurd rfl e
    | false=>
     rw[q,cond_false]at e;cases q2:(KP x).any fun l=>Xv l ((KP x).headD []) k with
     | true=>rw[q2]at e;exact absurd rfl e
     | false=>
      rw[cond_false,cond_false];rw[List.any_eq_false]at q2;have:=q2 t ht;unfold Xv at this;simp only[Bool.not_eq_true',Bool.not_eq_false,qbA,Bool.and_true]at this;have q3:(t.getD k ⟨0,0⟩).turn=(((KP x).headD []).getD k ⟨0,0⟩).turn:=by simpa using this.2
      exact q3.symm
   rw[e2];simp
end
structure Qdg (y x:QE):Prop where
 d:y.d=x.d
 h:y.hang=x.hang
 n:y.scans.n=x.scans.n
 lo:y.lost≤x.lost
 fo:y.foreign≤x.foreign
 q:∀ k,k<x.scans.n→∀ c t:Nat,c<x.d.ps.n→VG x.d (y.scans.get k) c t=true→VG x.d (x.scans.get k) c t=true
 r:x.ok=true→K5 x=true→K5 y=true
structure Qdh (y x:QE):Prop where
 e:VU x=0
 l1:(Qa y).1.length=(Qa x).1.length
 l2:(Qu y).1.length=(Qu x).1.length
 c:(Qa x).1.length=x.scans.n
 t:(Qu x).1.length=x.scans.n
 al:i64.wrap ((BitVec.ofInt 64 (Qa y).2.1 &&& ~~~BitVec.ofInt 64 (Qa x).2.1).toNat:Nat)=0
 ce:∀ k,k<x.scans.n→i64.wrap ((BitVec.ofInt 64 ((Qa y).1.getD k 0) &&& ~~~BitVec.ofInt 64 ((Qa x).1.getD k 0)).toNat:Nat)=0
 to:∀ k,k<x.scans.n→((((Qu x).1.getD k ⟨0,0⟩).cell != -1)&&(((Qu y).1.getD k ⟨0,0⟩).cell != ((Qu x).1.getD k ⟨0,0⟩).cell))=false
theorem QZB:Qs sl sh lo hi dl=true↔1000*lo≤min (max 0 sl) sh*(1000+dl)∧min (max 0 sl) sh*(1000+dl)≤1000*hi:=by
 unfold Qs;rw[qbA,qdE,qdE]
theorem QYa{dh:Int}:Kh sl sh lo hi dh=true↔1000*lo≤sl*(1000+dh)∧sh*(1000+dh)≤1000*hi:=by
 unfold Kh;rw[qbA,qdE,qdE]
theorem QGb{sl' sh':Int}(h:Qs sl' sh' lo hi dl=true)(h0:lo≤0)(h1:0≤hi)(hd:0≤dl)(hs:sl'≤sh')(hl:sl≤sl')(hh:sh'≤sh):Qs sl sh lo hi dl=true:=by
 rw[QZB]at h;refine QEc (n:=min (max 0 sl') sh') (by omega) (by omega) hd (by omega) (by omega) (by omega) (by omega)
theorem QGC{dh:Int}(h:Kh sl sh lo hi dh=true)(hs:sl≤sh)(h0:lo≤0)(h1:0≤hi)(d0:0≤dl)(d1:dl≤dh):Qs sl sh lo hi dl=true:=by
 rw[QYa]at h;have m1:=G1 (m:=1000+dl) hs (by omega)
 have g1:1000*lo≤sl*(1000+dl):=by
  rcases(show 0≤sl∨sl<0 by omega)with q|q
  ·have:=Int.mul_nonneg q (show 0≤1000+dl by omega);omega
  ·have:(-sl)*(1000+dl)≤(-sl)*(1000+dh):=Int.mul_le_mul_of_nonneg_left (by omega) (by omega)
   rw[Int.neg_mul,Int.neg_mul]at this;omega
 have g2:sh*(1000+dl)≤1000*hi:=by
  rcases(show sh≤0∨0<sh by omega)with q|q
  ·have:=Int.mul_nonneg (show 0 ≤ -sh by omega) (show 0≤1000+dl by omega)
   rw[Int.neg_mul]at this;omega
  ·have:sh*(1000+dl)≤sh*(1000+dh):=Int.mul_le_mul_of_nonneg_left (by omega) (by omega)
   omega
 exact QEc (n:=sl) h0 h1 d0 (Int.le_refl _) hs g1 (by omega)
def vn(t' t:Edge):Prop:=t'.kind=t.kind∧(t.at_.lo≤t'.at_.lo∧t'.at_.lo≤t'.at_.hi∧t'.at_.hi≤t.at_.hi)∧(t.wide.lo≤t'.wide.lo∧t'.wide.lo≤t'.wide.hi∧t'.wide.hi≤t.wide.hi)∧t.deep.lo≤t'.deep.lo∧t'.deep.lo≤t'.deep.hi∧t'.deep.hi≤t.deep.hi
theorem QBn{t':Edge}(h:t.ok=true)(hk:t.kind≠0)(ht:vn t' t):t'.ok=true:=by
 rw[Edge.ok_iff]at h ⊢;obtain⟨a0,a1,a2,a3⟩:=ht;omega
theorem QKw{h:Edge}(ht:t.ok=true)(hh:h.ok=true)(kt:t.kind=1)(kh:h.kind=2):(Qj p t h).lo≤(Qj p t h).hi∧(Qi t h).lo≤(Qi t h).hi∧(Qk t h).lo≤(Qk t h).hi:=by
 rw[Edge.ok_iff]at ht hh;simp only[Qj,Qi,Qk];omega
theorem Qa9{h t' h':Edge}(hp:p.ok=true)(ht:t.ok=true)(hh:h.ok=true)(kt:t.kind=1)(kh:h.kind=2)(tt:vn t' t)(th:vn h' h)(i:Nat)(hv:may p t' h' i=true):may p t h i=true:=by
 rw[Qm.ok_iff]at hp;have t1:=QBn ht (by omega) tt
 have h1:=QBn hh (by omega) th
 have s0:=QKw (p:=p) t1 h1 (by rw[tt.1];exact kt) (by rw[th.1];exact kh)
 obtain⟨_,a1,a2,a3⟩:=tt;obtain⟨_,b1,b2,b3⟩:=th;unfold may at hv ⊢;split at hv
 ·refine QGb hv (by omega) (by omega) (by omega) s0.1 ?_ ?_<;>simp only[Qj]<;>omega
 ·refine QGb hv (by omega) (by omega) (by omega) s0.2.1 ?_ ?_<;>simp only[Qi]<;>omega
 ·refine QGb hv (by omega) (by omega) (by omega) s0.2.2 ?_ ?_<;>simp only[Qk]<;>omega
theorem Qal{h:Edge}(hp:p.ok=true)(ht:t.ok=true)(hh:h.ok=true)(kt:t.kind=1)(kh:h.kind=2)(i:Nat)(hv:alw p t h i=true):may p t h i=true:=by
 rw[Qm.ok_iff]at hp;have s0:=QKw (p:=p) ht hh kt kh;unfold alw at hv;unfold may;split at hv
 ·exact QGC hv s0.1 (by omega) (by omega) (by omega) (by omega)
 ·exact QGC hv s0.2.1 (by omega) (by omega) (by omega) (by omega)
 ·exact QGC hv s0.2.2 (by omega) (by omega) (by omega) (by omega)
theorem QKa{h:Edge}(hp:p.ok=true)(ht:t.ok=true)(hh:h.ok=true)(kt:t.kind=1)(kh:h.kind=2):YL p t h=0↔¬ (may p t h 0=true∧may p t h 1=true∧may p t h 2=true):=by
 rw[QDX];have m:=Qal hp ht hh kt kh
 by_cases h2:(alw p t h 0&&(alw p t h 1&&alw p t h 2))=true
 ·rw[if_pos h2];simp only[qbA]at h2;simp[m 0 h2.1,m 1 h2.2.1,m 2 h2.2.2]
 ·rw[if_neg h2]
  by_cases h1:(may p t h 0&&(may p t h 1&&may p t h 2))=true
  ·rw[if_pos h1];simp only[qbA]at h1;simp[h1.1,h1.2.1,h1.2.2]
  ·rw[if_neg h1];simp only[qbA]at h1;simp[h1]
def QCz(t' t:Edge):Prop:=t'.kind=t.kind∧(t.kind≠0→vn t' t)
theorem QVP{a' b':Edge}(hp:p.ok=true)(ha:a.ok=true)(hb:b.ok=true)(ta:QCz a' a)(tb:QCz b' b)(h:Xh p a b=0):Xh p a' b'=0:=by
 have core:∀ t h t' h':Edge,t.ok=true→h.ok=true→t.kind=1→h.kind=2→vn t' t→vn h' h→YL p t h=0→YL p t' h'=0:=by
  intro t h t' h' ht hh kt kh tt th h0;rw[QKa hp (QBn ht (by omega) tt) (QBn hh (by omega) th) (by rw[tt.1];exact kt) (by rw[th.1];exact kh)]
  rw[QKa hp ht hh kt kh]at h0;have m:=Qa9 hp ht hh kt kh tt th;exact fun h=>h0 ⟨m 0 h.1,m 1 h.2.1,m 2 h.2.2⟩
 unfold Xh at h ⊢;rw[ta.1,tb.1]
 by_cases a2:a.kind=2
 ·rw[if_pos a2]at h ⊢
  by_cases b1:b.kind=1
  ·rw[if_pos b1]at h ⊢;exact core b a b' a' hb ha b1 a2 (tb.2 (by omega)) (ta.2 (by omega)) h
  ·rw[if_neg b1]
 ·rw[if_neg a2]at h ⊢
  by_cases k:a.kind=1∧b.kind=2
  ·rw[if_pos k]at h ⊢;exact core a b a' b' ha hb k.1 k.2 (ta.2 (by omega)) (tb.2 (by omega)) h
  ·rw[if_neg k]
theorem QPg:(KG p a b).1=0↔((p.ok=true∧a.ok=true∧b.ok=true)→Xh p a b=0):=by
 unfold KG
 by_cases h:p.ok=true∧a.ok=true∧b.ok=true
 ·rw[if_pos h];simp[h]
 ·rw[if_neg h];simp[h]
theorem QU1{a':Edge}(h:QCz a' a)(e:isS a' b=true):isS a b=true:=by
 unfold isS at e ⊢;rw[h.1]at e;cases hk:a.kind==0 with
 | true=>rw[hk]at e;exact e
 | false=>
  rw[hk]at e;have ht:=h.2 (by simpa using hk)
  obtain⟨k,a1,a2,a3⟩:=ht;simp only[cond_false]at e ⊢;unfold isF com at e ⊢;simp only[qbA,qdE,beq_iff_eq]at e ⊢;rw[k]at e;refine⟨?_,?_,?_,?_⟩<;>first|exact e.1|omega
structure QDG (x:QE) (S:List QB):Prop where
 ok:x.ok=true
 n:x.scans.n=S.length
 one:∀ i j (hi:i<j) (hj:j<S.length),S[j].cell ≠ -2→S[i].cell≠S[j].cell
 al:QH S (-2)≤x.foreign
 seat:∀ i (h:i<S.length),S[i]=⟨-2,0⟩∨∃ c t:Nat,c<x.d.ps.n∧t<4∧S[i]=⟨(c:Nat),(t:Nat)⟩∧VG x.d (x.scans.get i) c t=true
 hang:∀ m,m<x.hang.n→XD x (x.hang.get m) (S.getD (x.hang.get m).a.toNat ⟨0,0⟩) (S.getD (x.hang.get m).b.toNat ⟨0,0⟩)=true
 ref:∀ m,m<x.hang.n→Xp x m=false
 lost:(x.d.ps.n:Int)-((S.length:Int)-QH S (-2))≤x.lost
theorem QIX{x:QE}{S:List QB}(h:QDG x S):S∈KP x:=by
 rw[j6 h.ok];refine⟨h.n.symm,fun i hi => ?_,h.one,h.al,h.hang,?_⟩
 ·rw[vd (by rw[h.n];exact hi)]
  simp only[ZV,List.mem_cons];rcases h.seat i hi with e|⟨c,t,h1,h2,h3,h4⟩
  ·left;rw[e];rfl
  ·right;exact QJX.2 ⟨c,t,h1,h2,h4,h3⟩
 ·unfold X2;have:=h.lost;exact decide_eq_false (by omega)
theorem QTO{x:QE}{S:List QB}(h:QDG x S):VU x=0:=by
 have hm:=QIX h;unfold VU;rw[h.ok]
 have hr:K5 x=false:=by
  unfold K5;rw[GA fun k _ hk=>h.ref k (by omega)];rfl
 rw[hr];cases e:KP x with
 | nil=>rw[e]at hm;cases hm
 | cons a L=>rfl
structure QDy (x:QE) (S:List QB):Prop where
 e1:(Qa x).2.2=0
 e2:(Qu x).2=0
 e3:(miV x).2.2=0
 e4:(JJ x).2.2.2=0
 m:1≤(JJ x).2.2.1
 l1:(Qa x).1.length=S.length
 l2:(Qu x).1.length=S.length
 f:∀ i,i<S.length→Gw ((Qa x).1.getD i 0) (Qa x).2.1 i ((Qu x).1.getD i ⟨0,0⟩) (S.getD i ⟨0,0⟩)
 ms:∀ k,Ql (miV x).1 k=true→k<x.d.ps.n∧Zb S k=false
 mm:∀ k,k<x.d.ps.n→Zb S k=false→Ql (miV x).2.1 k=true
 is:KY (miV x).1∧KY (miV x).2.1
theorem QTx{x:QE}{S:List QB}(h:QDG x S):QDy x S:=by
 have he:=QTO h;have hm:=QIX h;have px:=(QJW x).2.2 he;have mo:=((QK0 x).2.2 he).2.2.2;have ht:(Qu x).1=Zs (KP x) x.scans.n:=by rw[QQQ,he];rfl
 refine⟨by rw[(QJW x).1,he],by rw[QQQ,he],by rw[(QK0 x).1,he],by rw[QRP,he];rfl,?_,by rw[px.len,h.n],by rw[ht,QFA,h.n],fun i hi => ?_,fun k hk => ?_,fun k hk hc => ?_,mo.si,mo.mi⟩
 ·rw[QRP,he];show 1≤(((min (KP x).length 100:Nat):Int));have:0<(KP x).length:=List.length_pos_of_mem hm;omega
 ·have hi':i<x.scans.n:=by rw[h.n];exact hi
  have:=QUr h.ok px hi' hm;rw[ht,QYI hi'];exact this
 ·rw[mo.sb,qbA,List.all_eq_true,qdE]at hk;have:=hk.2 S hm;exact⟨hk.1,by simpa using this⟩
 ·rw[mo.mb,qbA];exact⟨decide_eq_true hk,List.any_eq_true.2 ⟨S,hm,by rw[hc];rfl⟩⟩
def Vf(P:Program)(pb:List Prop→Bool)(d:Puz)(w:Rw QO):Tab:=Qe (Qe (Qe (Qe (Qe (Qe (Qe (Qe ZI 12 QFc) 25 (ZC QII)) 20 (ZC QLv)) 33 (ZC QRR)) 23 (ZC miC)) 58 (dwC pb w)) 29 (QF0 P ZI)) 30 (scC pb d w)
theorem qh:Qc (Vf Try.prog QS d w):=(((((((jq.add QdU).add (Z0 QKf)).add (Z0 QN3)).add (Z0 QJD)).add (Z0 QRA)).add (QIW w)).add QUa).add (QZ2 d w)
def tqP:List CK:=QA.ks (α:=QG)
def tqS:List CK:=QA.ks (α:=QB)
structure Made where
 m:Nat
 S:Nat→QB
 P:Nat→QG
 has:Int→Bool
 at_:Int→Int
 k:Int
 gone:Int
 lost:Int
def tqC(M:Made)(fo:Int):List AV:=jc d++[.slz 408 0 M.m (.of 0),.nils,.int false .i64 M.lost,.int false .i64 fo]
def tqB(M:Made)(fo:Int):List (Nat×Blk):=[(8,.cells 0 28 (jc d)),(16,.cells 7 33 (Enc.enc q).cells),(320,.cells 0 50 (tqC d M fo)),(344,.mpf .i64 (.int true .i64 0) M.has fun i => .int false .i64 (M.at_ i)),(400,.rowz true 56 tqS M.m fun i=>QA.enc (M.S i)),(408,.rowz true 33 tqP M.m fun i=>QA.enc (M.P i))]++atB w M.k++Q3.blk 0 d.ps
def tqL(M:Made):List (Nat×AV):=[(3,.ptr 8 0 0),(4,.ptr 16 0 0),(7,dwF),(8,.ptr 320 0 0),(9,.slz 400 0 M.m (.of 0)),(10,.map 344),(11,.int false .i64 M.gone)]
def qi(M:Made)(fo:Int)(c:Nat):JSt:=⟨332,tqL M++[(64,.int false .i64 d.ps.n),(65,.int false .i64 c)],tqB d q w M fo,500⟩
def QA1(M:Made)(fo:Int):JSt:=⟨332,tqL M,tqB d q w M fo,500⟩
def QOj:Ex→List Nat
 | .normal=>[3,4,7,8,9,10,11,64,65]
 | .exit _=>[3,4,7,8,9,10,11]
 | .ret=>[]
noncomputable abbrev zG:List AV:=
  [.ptr 272 0 0,.ptr 273 0 0]
noncomputable abbrev QHc(M:Made)(c:Nat):Int:=
  (↑(BitVec.ofInt 64 M.gone ||| BitVec.ofInt 64 (i64.wrap ((1:Int)*2^min c 64))).toNat:Int)
noncomputable abbrev QDp:Nat×Blk:=
  (273,.cells 0 58 [.slz 2 0 w.n cO])
noncomputable abbrev QGF:Nat×Blk:=
  (8,.cells 0 28 [vi d.play.length,vi d.play.slack,vi d.play.loose,vi d.play.damp.lo,vi d.play.damp.hi,.int
  false .i64 d.wide,vi d.high,.bool false d.turn,.slz 0 0 d.ps.n cO])
noncomputable abbrev QFy:Nat×Blk:=
  (16,.cells 7 33 ((Enc.enc (q:QG)).cells))
abbrev vO:List CK:=
  [.int .i64,.int .i64,.int .i64,.int .i64,.int .i64,.int .i64,.int .i64,.int .i64,.int .i64,.int .i64,.int .i64,.int .i64,.int .i64,.int .i64,.int .i64,.int .i64,.int
  .i64,.int .i64,.int .i64,.int .i64,.int .i64,.int .i64,.int .i64,.int .i64,.int .i64,.int .i64,.int .i64,.int .i64]
noncomputable abbrev QJl(M:Made)(d:Puz)(fo:Int)(q:QG)(w:Rw QO):List (Nat×Blk):=
  [(272,.cells 0 3 [vi (M.k+1)]),(QDp w),(QGF d),(QFy q),(320,.cells 0 50 [vi d.play.length,vi d.play.slack,.int false .i64
  d.play.loose,vi d.play.damp.lo,vi d.play.damp.hi,vi d.wide,vi d.high,.bool false d.turn,.slz 0 0 d.ps.n cO,.slz
  408 0 M.m cO,.nils,vi (i64.wrap (M.lost+1)),vi fo]),(400,.rowz true 56 [.int .i64,.int .i64] M.m fun i=>QA.enc (M.S i)),(344,
  .mpf i64 (.int true .i64 0) M.has fun i => .int false .i64 (M.at_ i)),(2,.frz [CK.int IntKind.u16] w.n fun i=>QA.enc (w.get i)),(0,.frz vO d.ps.n fun i=>QA.enc
  (d.ps.get i)),(408,.rowz true 33 vO M.m fun i=>QA.enc (M.P i))]
noncomputable abbrev QMN(M:Made)(c:Nat)(d:Puz)(w:Rw QO):List AV:=
  ((Enc.enc ((oN d (QB.mk (c:Int) (dv w (M.k+1) (4:Int))) w (M.k+1+1)):QG)).cells)
noncomputable abbrev QI3(M:Made)(c:Nat)(d:Puz)(fo:Int)(q:QG)(w:Rw QO):List (Nat×Blk):=
  [(272,.cells 0 3 [vi (kN d (QB.mk (c:Int) (dv w (M.k+1) (4:Int))) (M.k+1+1))]),(QDp w),(QGF d),(QFy q),(320,.cells 0 50 [.int false .i64
  d.play.length,vi d.play.slack,vi d.play.loose,vi d.play.damp.lo,vi d.play.damp.hi,vi d.wide,.int false .i64
  d.high,.bool false d.turn,.slz 0 0 d.ps.n cO,.slz 724 0 (M.m+1) cO,.nils,vi M.lost,vi fo]),(660,.rowz true 56 [.int .i64,.int
  .i64] (M.m+1) (QY M.m (fun i=>QA.enc (M.S i)) (QR [[vi (c:Int),vi (dv w (M.k+1) (4:Int))]] 0))),(344,.mpf i64 (.int true .i64
  0) (QW (c:Int) true M.has) (Q9 (c:Int) (.int false .i64 (M.m:Int)) fun i => .int false .i64 (M.at_ i))),(2,.frz [CK.int IntKind.u16] w.n fun i=>QA.enc (w.get i)),
  (0,.frz vO d.ps.n fun i=>QA.enc (d.ps.get i)),(724,.rowz true 33 vO (M.m+1) (QY M.m (fun i=>QA.enc (M.P i)) (QR [(QMN M c d w)] 0)))]
noncomputable abbrev QJm(M:Made)(d:Puz)(fo:Int)(q:QG)(w:Rw QO):List (Nat×Blk):=
  [(272,.cells 0 3 [vi M.k]),(QDp w),(QGF d),(QFy q),(320,.cells 0 50 [vi d.play.length,vi d.play.slack,vi d.play.loose,
  .int false .i64 d.play.damp.lo,vi d.play.damp.hi,vi d.wide,vi d.high,.bool false d.turn,.slz 0 0 d.ps.n cO,.slz 408 0 M.m
  cO,.nils,vi M.lost,vi fo]),(400,.rowz true 56 [.int .i64,.int .i64] M.m fun i=>QA.enc (M.S i)),(344,.mpf i64 (.int true .i64 0)
  M.has fun i => .int false .i64 (M.at_ i)),(2,.frz [CK.int IntKind.u16] w.n fun i=>QA.enc (w.get i)),(0,.frz vO d.ps.n fun i=>QA.enc (d.ps.get i)),(408,.rowz true 33
  vO M.m fun i=>QA.enc (M.P i))]
theorem QVM(M:Made)(fo:Int)(c:Nat)(g:Nat→Value):exec (mkS Try.prog (Vf Try.prog pb d w)) (hnd (mkS Try.prog (Vf Try.prog pb d w)) 3) (Qd Try.f5 0) (JSt.inst (qi d q w M fo c) g) (KS [272,273] QOj) = .br (decide
  ((c:Int)<(d.ps.n:Int))) (.need (decide (1≤w.n∧(0:Int)≤M.k∧M.k≤100000∧(0:Int)<4)&&pb [w.n=w.n,w.n=w.n,QC 1 w.n (fun i=>QA.enc (w.get i)) fun i
  => QA.enc (w.get i)]) (.br (dv w M.k (4:Int)==0) (.need (decide ((0:Int)≤(c:Int))) (.leaf (.tup [.nilp,.ptr 332 0 0,.ptr 8 0 0,.ptr 16 0 0,.fn (Fn.func 58) zG,
  .ptr 320 0 0,.slz 400 0 M.m cO,.map 344,vi (i64.wrap (QHc M c)),vi (d.ps.n:Int),vi (i64.wrap ((c:Int) +
  1))]) ((QJl M d fo q w)))) (.need (decide (1≤w.n∧(0:Int)≤M.k+1∧M.k+1≤100000∧(0:Int)<4)&&pb [w.n=w.n,w.n=w.n,QC 1 w.n (fun i=>QA.enc (w.get i))
  fun i=>QA.enc (w.get i)]) (.need (decide (M.m≤M.m)&&(true&&decide ((M.m+1+(M.m+1) / 4+192)*16≤281474976710656∧M.m+1≤9223372036854775807))) (.need (decide
  (((0:Int)≤(c:Int)∧(c:Int)<(d.ps.n:Int))∧((0:Int)≤dv w (M.k+1) (4:Int)∧dv w (M.k+1) (4:Int)<4)∧1≤w.n∧(0:Int)≤M.k+1+1∧M.k+1+1 ≤
  90000)&&pb ([d.play.length=d.play.length]++([d.play.slack=d.play.slack]++([d.play.loose=d.play.loose]++([d.play.damp.lo=d.play.damp.lo]++([d.play.damp.hi =
  d.play.damp.hi]++([d.wide=d.wide]++([d.high=d.high]++([d.turn=d.turn]++([0=0,d.ps.n=d.ps.n,cO=cO]++[]))))))))++([(c:Int)=(QB.mk (c:Int)
  (dv w (M.k+1) (4:Int))).cell]++([dv w (M.k+1) (4:Int)=(QB.mk (c:Int) (dv w (M.k+1) (4:Int))).turn]++[])++((Fn.func (58:FuncId)=Fn.func (58:FuncId)) ::
  ([0=0,0=0]++([0=0,0=0]++[]))++[]))++([d.ps.n≤d.ps.n,QC (QA.ks QG).length d.ps.n (fun i=>QA.enc (d.ps.get i)) fun i=>QA.enc (d.ps.get i)] ++
  ([M.k+1+1=M.k+1+1]++[]++([0=0,w.n=w.n,cO=cO]++[]++([w.n≤w.n,QC (QA.ks QO).length w.n (fun i=>QA.enc (w.get i)) fun i=>QA.enc
  (w.get i)]++[])))))) (.need (decide (M.m≤M.m)&&(true&&decide ((M.m+1+(M.m+1) / 4+192)*224≤281474976710656∧M.m+1≤9223372036854775807))) (.leaf (.tup [.nilp,
  .ptr 332 0 0,.ptr 8 0 0,.ptr 16 0 0,.fn (Fn.func 58) zG,.ptr 320 0 0,.slz 660 0 (M.m+1) cO,.map 344,vi M.gone,vi (d.ps.n:Int),.int
  false .i64 (i64.wrap ((c:Int)+1))]) ((QI3 M c d fo q w))))))))) (.leaf (.tup [.ptr 0 0 0,.ptr 332 0 0,.ptr 8 0 0,.ptr 16 0 0,.fn (Fn.func 58) zG,.ptr 320 0 0,
  .slz 400 0 M.m cO,.map 344,vi M.gone]) ((QJm M d fo q w))):=by kernel_rfl
abbrev zI:List Prop:=
  [0=0,0=0,0=0,0=0]
abbrev QGK:List Prop:=
  [d.play.length=d.play.length,d.play.slack=d.play.slack,d.play.loose=d.play.loose,d.play.damp.lo=d.play.damp.lo,d.play.damp.hi=d.play.damp.hi,d.wide=d.wide,d.high =
  d.high,d.turn=d.turn,0=0,d.ps.n=d.ps.n]
abbrev QFz:List Prop:=
  [cO=cO,q.up.kind=q.up.kind,q.up.at_.lo=q.up.at_.lo,q.up.at_.hi=q.up.at_.hi,q.up.wide.lo=q.up.wide.lo,q.up.wide.hi=q.up.wide.hi,q.up.deep.lo =
  q.up.deep.lo,q.up.deep.hi=q.up.deep.hi,q.right.kind=q.right.kind,q.right.at_.lo=q.right.at_.lo,q.right.at_.hi=q.right.at_.hi,q.right.wide.lo=q.right.wide.lo,
  q.right.wide.hi=q.right.wide.hi,q.right.deep.lo=q.right.deep.lo,q.right.deep.hi=q.right.deep.hi,q.down.kind=q.down.kind,q.down.at_.lo=q.down.at_.lo,q.down.at_.hi =
  q.down.at_.hi,q.down.wide.lo=q.down.wide.lo,q.down.wide.hi=q.down.wide.hi,q.down.deep.lo=q.down.deep.lo,q.down.deep.hi=q.down.deep.hi,q.left.kind=q.left.kind,
  q.left.at_.lo=q.left.at_.lo,q.left.at_.hi=q.left.at_.hi,q.left.wide.lo=q.left.wide.lo,q.left.wide.hi=q.left.wide.hi,q.left.deep.lo=q.left.deep.lo,q.left.deep.hi =
  q.left.deep.hi,d.play.length=d.play.length,d.play.slack=d.play.slack,d.play.loose=d.play.loose,d.play.damp.lo=d.play.damp.lo,d.play.damp.hi=d.play.damp.hi,d.wide =
  d.wide,d.high=d.high,d.turn=d.turn,0=0,d.ps.n=d.ps.n,cO=cO]
abbrev QEP:List Prop:=
  [w.n=w.n,cO=cO,w.n≤w.n,QC 1 w.n (fun i=>QA.enc (w.get i)) fun i=>QA.enc (w.get i),d.ps.n≤d.ps.n,QC 28 d.ps.n (fun i=>QA.enc (d.ps.get
  i)) fun i=>QA.enc (d.ps.get i)]
theorem QcI(M M':Made)(fo:Int)(c c':Nat):QK 280 [.ptr 8 0 0,.ptr 16 0 0,.fn (Fn.func 58) zG,.ptr 320 0 0,.slz 400 0 M.m cO,.map 344,vi (i64.wrap (QHc M c)),vi (d.ps.n :
  Int),vi (i64.wrap ((c:Int)+1))] ((QJl M d fo q w)) (qi d q w M' fo c')=(some (zI++[Fn.func 58=Fn.func (58:FuncId)]++zI++[0=0,0 =
  0,0=0,M.m=M'.m,cO=cO,i64.wrap (QHc M c)=M'.gone,(d.ps.n:Int)=(d.ps.n:Int),i64.wrap ((c:Int)+1)=(c':Int)]++(QGK d) ++
  (QFz d q)++[0=0,M.m=M'.m,cO=cO,i64.wrap (M.lost+1)=M'.lost,fo=fo,KA (.int true .i64 0) (.int true .i64 0) M.has M'.has (fun i => .int
  false .i64 (M.at_ i)) fun i => .int false .i64 (M'.at_ i),M'.m≤M.m,QC 2 M'.m (fun i=>QA.enc (M.S i)) fun i=>QA.enc (M'.S i),M'.m≤M.m,QC 28 M'.m (fun i=>
  QA.enc (M.P i)) fun i=>QA.enc (M'.P i),M.k+1=M'.k,0=0]++(QEP d w))):=by kernel_rfl
theorem Qcd(M M':Made)(fo:Int)(c c':Nat):QK 280 [.ptr 8 0 0,.ptr 16 0 0,.fn (Fn.func 58) zG,.ptr 320 0 0,.slz 660 0 (M.m+1) cO,.map 344,vi M.gone,vi (d.ps.n:Int),.int false
  .i64 (i64.wrap ((c:Int)+1))] ((QI3 M c d fo q w)) (qi d q w M' fo c')=(some (zI++[Fn.func 58=Fn.func (58:FuncId)]++zI++[0=0,0=0,0=0,M.m +
  1=M'.m,cO=cO,M.gone=M'.gone,(d.ps.n:Int)=(d.ps.n:Int),i64.wrap ((c:Int)+1)=(c':Int)]++(QGK d)++(QFz d q)++[0=0,M.m+1 =
  M'.m,cO=cO,M.lost=M'.lost,fo=fo,KA (.int true .i64 0) (.int true .i64 0) (QW (c:Int) true M.has) M'.has (Q9 (c:Int) (.int false .i64 (M.m:Int))
  fun i => .int false .i64 (M.at_ i)) fun i => .int false .i64 (M'.at_ i),M'.m≤M.m+1,QC 2 M'.m (QY M.m (fun i=>QA.enc (M.S i)) (QR [[vi (c:Int),.int
  false .i64 (dv w (M.k+1) (4:Int))]] 0)) fun i=>QA.enc (M'.S i),M'.m≤M.m+1,QC 28 M'.m (QY M.m (fun i=>QA.enc (M.P i)) (QR [(QMN M c d w)] 0)) fun i=>
  QA.enc (M'.P i),kN d (QB.mk (c:Int) (dv w (M.k+1) (4:Int))) (M.k+1+1)=M'.k,0=0]++(QEP d w))):=by kernel_rfl
theorem QYb(M:Made)(fo:Int):QK 280 [.ptr 8 0 0,.ptr 16 0 0,.fn (Fn.func 58) zG,.ptr 320 0 0,.slz 400 0 M.m cO,.map 344,vi M.gone] ((QJm M d fo q w)) (QA1 d q w M fo)=(some
  (zI++[Fn.func 58=Fn.func (58:FuncId)]++zI++[0=0,0=0,0=0,M.m=M.m,cO=cO,M.gone=M.gone]++(QGK d)++(QFz d q)++[0=0,M.m=M.m,
  cO=cO,M.lost=M.lost,fo=fo,KA (.int true .i64 0) (.int true .i64 0) M.has M.has (fun i => .int false .i64 (M.at_ i)) fun i => .int false .i64 (M.at_ i),M.m ≤
  M.m,QC 2 M.m (fun i=>QA.enc (M.S i)) fun i=>QA.enc (M.S i),M.m≤M.m,QC 28 M.m (fun i=>QA.enc (M.P i)) fun i=>QA.enc (M.P i),M.k=M.k,0=0]++(QEP
  d w))):=by kernel_rfl
def tqJ:List CK:=QA.ks (α:=Jn)
def QKV(M:Made)(fo:Int)(h:Nat):List AV:=jc d++[.slz 408 0 M.m (.of 0),.slz 416 0 h (.of 0),.int false .i64 M.lost,.int false .i64 fo]
def QWw(M:Made)(fo:Int)(h:Nat)(H:Nat→Jn):List (Nat×Blk):=[(8,.cells 0 28 (jc d)),(320,.cells 0 50 (QKV d M fo h)),(344,.mpf .i64 (.int true .i64 0) M.has fun i => .int false .i64 (M.at_ i)),(400,.rowz true 56 tqS M.m fun i=>QA.enc (M.S i)),(408,.rowz true 33 tqP M.m fun i=>QA.enc (M.P i)),(416,.rowz true 70 tqJ h fun i=>QA.enc (H i))]++Q3.blk 0 d.ps
def Qcn(M:Made):List (Nat×AV):=[(3,.ptr 8 0 0),(8,.ptr 320 0 0),(9,.slz 400 0 M.m (.of 0)),(10,.map 344),(11,.int false .i64 M.gone)]
def qU(M:Made)(fo:Int)(h:Nat)(H:Nat→Jn)(i:Nat):JSt:=⟨332,Qcn M++[(117,.slz 400 0 M.m (.of 0)),(118,.int false .i64 M.m),(119,.int false .i64 i)],QWw d M fo h H,500⟩
def QUF(M:Made):List (Nat×AV):=[(8,.ptr 320 0 0),(9,.slz 400 0 M.m (.of 0)),(11,.int false .i64 M.gone)]
def QYn(M:Made)(fo:Int)(h:Nat)(H:Nat→Jn):List (Nat×Blk):=[(320,.cells 0 50 (QKV d M fo h)),(400,.rowz true 56 tqS M.m fun i=>QA.enc (M.S i)),(408,.rowz true 33 tqP M.m fun i=>QA.enc (M.P i)),(416,.rowz true 70 tqJ h fun i=>QA.enc (H i))]++Q3.blk 0 d.ps
def QDQ(M:Made)(fo:Int)(h:Nat)(H:Nat→Jn):JSt:=⟨332,QUF M,QYn d M fo h H,500⟩
def QMd:Ex→List Nat
 | .normal=>[3,8,9,10,11,117,118,119]
 | .exit _=>[8,9,11]
 | .ret=>[]
def Ha(al:Int)(T:List QB)(i:Nat):JSt:=⟨332,[(21,.slz 424 0 L.length (.of 0)),(22,.int false .i64 al),(24,.slz 432 0 T.length (.of 0)),(252,.slz 400 0 S.length (.of 0)),(253,.int false .i64 S.length),(254,.int false .i64 i)],[rwL 400 S,rwI 424 L,rwL 432 T],500⟩
def QB2:JSt:=⟨332,[],[],500⟩
def QOo:Ex→List Nat
 | .normal=>[21,22,24,252,253,254]
 | .exit _=>[]
 | .ret=>[6]
noncomputable abbrev QE6(M:Made)(i:Nat):List AV:=
  [.nilp,.ptr 332 0 0,.ptr 8 0 0,.ptr 320 0 0,.slz 400 0 M.m cO,.map 344,vi M.gone,.slz 400 0 M.m cO,vi (M.m:Int),.int false .i64
  (i64.wrap ((i:Int)+1))]
noncomputable abbrev QHs:Nat×Blk:=
  (8,.cells 0 28 [vi d.play.length,vi d.play.slack,vi d.play.loose,vi d.play.damp.lo,vi d.play.damp.hi,.int
  false .i64 d.wide,vi d.high,.bool false d.turn,.slz 0 0 d.ps.n cO])
noncomputable abbrev QEh(M:Made)(d:Puz)(fo:Int)(h:Nat):Nat×Blk:=
  (320,.cells 0 50 [vi d.play.length,vi d.play.slack,vi d.play.loose,vi d.play.damp.lo,vi d.play.damp.hi,.int
  false .i64 d.wide,vi d.high,.bool false d.turn,.slz 0 0 d.ps.n cO,.slz 408 0 M.m cO,.slz 416 0 h cO,vi M.lost,.int false
  .i64 fo])
noncomputable abbrev QFX(M:Made)(i:Nat):Nat×Blk:=
  (400,.rowz true 56 [.int .i64,.int .i64] M.m fun i=>QA.enc (M.S i))
abbrev W0:List CK:=
  [.int .i64,.int .i64,.int .i64,.int .i64,.int .i64,.int .i64,.int .i64,.int .i64,.int .i64,.int .i64,.int .i64,.int .i64,.int .i64,.int .i64,.int .i64,.int .i64,.int
  .i64,.int .i64,.int .i64,.int .i64,.int .i64,.int .i64,.int .i64,.int .i64,.int .i64,.int .i64,.int .i64,.int .i64]
abbrev QC1:List CK:=
  [.int .i64,.int .i64,.int .i64,.int .i64]
noncomputable abbrev QFH(M:Made)(d:Puz)(fo:Int)(h:Nat)(i:Nat):List (Nat×Blk):=
  [(QHs d),(QEh M d fo h),(QFX M i),(344,.mpf i64 (.int true .i64 0) M.has fun i => .int false .i64 (M.at_ i)),(0,.frz W0 d.ps.n fun i=>QA.enc (d.ps.get i)),
  (408,.rowz true 33 W0 M.m fun i=>QA.enc (M.P i)),(416,.rowz true 70 QC1 h fun i=>QA.enc (H i))]
noncomputable abbrev QNe(M:Made)(d:Puz)(i:Nat):List AV:=
  [vi (i:Int),vi ((i64.wrap ((5:Int)-(M.S i).turn)).tmod (4:Int)),vi (toI (.int false .i64 (M.at_ (QV d.wide d.high (M.S
  i).cell (1:Int))))),vi ((i64.wrap ((7:Int)-(M.S (toI (.int false .i64 (M.at_ (QV d.wide d.high (M.S i).cell (1:Int))))).toNat).turn)).tmod (4 :
  Int))]
noncomputable abbrev QM1(M:Made)(d:Puz)(fo:Int)(h:Nat)(i:Nat):List (Nat×Blk):=
  [(QHs d),(320,.cells 0 50 [vi d.play.length,vi d.play.slack,vi d.play.loose,vi d.play.damp.lo,.int false .i64
  d.play.damp.hi,vi d.wide,vi d.high,.bool false d.turn,.slz 0 0 d.ps.n cO,.slz 408 0 M.m cO,.slz 1052 0 (h+1) cO,.int false
  .i64 M.lost,vi fo]),(QFX M i),(344,.mpf i64 (.int true .i64 0) M.has fun i => .int false .i64 (M.at_ i)),(0,.frz W0 d.ps.n fun i=>QA.enc (d.ps.get
  i)),(408,.rowz true 33 W0 M.m fun i=>QA.enc (M.P i)),(1052,.rowz true 70 QC1 (h+1) (QY h (fun i=>QA.enc (H i)) (QR [(QNe M d i)] 0)))]
theorem QdS(M:Made)(fo:Int)(h:Nat)(H:Nat→Jn)(i:Nat)(g:Nat→Value):exec (mkS Try.prog (Vf Try.prog pb d w)) (hnd (mkS Try.prog (Vf Try.prog pb d w)) 3) (Qd Try.f5 1) (JSt.inst (qU d M fo h H i) g) (KS [] QMd) = .br (decide ((i :
  Int)<(M.m:Int))) (.need (decide ((0:Int)≤(i:Int)∧(i:Int)<(M.m:Int))&&decide (M.m≤M.m)) (.need (decide (i<M.m)) (.br ((M.S i).cell == -2) (.leaf (.tup (QE6 M
  i)) ((QFH H M d fo h i))) (.need (decide (d.ps.n≤d.ps.n)&&(true&&(true&&true))&&decide (((1:Int)≤d.wide∧d.wide≤100)∧((1:Int)≤d.high∧d.high≤100)∧(0 :
  Int)≤(M.S i).cell∧(M.S i).cell≤100)) (.need (isI i64 (.int false .i64 (M.at_ (QV d.wide d.high (M.S i).cell (1:Int))))) (.need (decide ((0:Int)≤(M.S i).cell ∧
  (M.S i).cell<(d.ps.n:Int))&&decide (d.ps.n≤d.ps.n)) (.need (decide ((M.S i).cell.toNat<d.ps.n)) (.need (decide ((0:Int)≤max (0:Int) (QV d.wide d.high (M.S i).cell
  (1:Int))∧max (0:Int) (QV d.wide d.high (M.S i).cell (1:Int))<(d.ps.n:Int))&&decide (d.ps.n≤d.ps.n)) (.need (decide ((max (0:Int) (QV d.wide d.high (M.S i).cell
  (1:Int))).toNat<d.ps.n)) (.need (true) (.need (!M.has (QV d.wide d.high (M.S i).cell (1:Int))||M.has (QV d.wide d.high (M.S i).cell (1:Int))) (.need (!M.has (QV
  d.wide d.high (M.S i).cell (1:Int))||M.has (QV d.wide d.high (M.S i).cell (1:Int))) (.bnd (M.has (QV d.wide d.high (M.S i).cell (1:Int))&&(KG d.play (d.ps.get (M.S
  i).cell.toNat).right (d.ps.get (max (0:Int) (QV d.wide d.high (M.S i).cell (1:Int))).toNat).left).1 != 0) (fun(x0:Bool) => .br (x0) (.need (decide ((0:Int)≤toI (.int
  false .i64 (M.at_ (QV d.wide d.high (M.S i).cell (1:Int))))∧toI (.int false .i64 (M.at_ (QV d.wide d.high (M.S i).cell (1:Int))))<(M.m:Int))&&decide (M.m≤M.m))
  (.need (decide ((toI (.int false .i64 (M.at_ (QV d.wide d.high (M.S i).cell (1:Int))))).toNat<M.m)) (.need (decide (h≤h)&&(true&&decide ((h+1+(h+1) / 4+192)*32
  ≤ 281474976710656∧h+1≤9223372036854775807))) (.leaf (.tup (QE6 M i)) ((QM1 H M d fo h i)))))) (.leaf (.tup (QE6 M i)) ((QFH H M d fo h i))))))))))))))))) (.leaf (.tup
  [.ptr 2 0 0,.ptr 332 0 0,.ptr 320 0 0,.slz 400 0 M.m cO,vi M.gone]) ([(QEh M d fo h),(QFX M i),(0,.frz W0 d.ps.n fun i=>QA.enc (d.ps.get i)),
  (408,.rowz true 33 W0 M.m fun i=>QA.enc (M.P i)),(416,.rowz true 70 QC1 h fun i=>QA.enc (H i))])):=by kernel_rfl
noncomputable abbrev YD(al:Int)(i:Nat):Int:=
  (↑(BitVec.ofInt 64 (al.fdiv ((2:Int)^min i 64)) &&& BitVec.ofInt 64 (1:Int)).toNat:Int)
noncomputable abbrev QQl(S:List QB)(T:List QB)(al:Int)(i:Nat):List AV:=
  [.nilp,.ptr 332 0 0,.slz 424 0 L.length cO,vi al,.slz 432 0 T.length cO,.slz 400 0 S.length cO,vi (S.length:Int),.int
  false .i64 (i64.wrap ((i:Int)+1))]
noncomputable abbrev QFs(S:List QB)(T:List QB)(i:Nat):List (Nat×Blk):=
  [(424,.rowz true 3 [.int .i64] L.length fun i=>QA.enc (L.getD i 0)),(432,.rowz true 56 [.int .i64,.int .i64] T.length fun i=>QA.enc (T.getD i ⟨0,0⟩)),(400,.rowz true
  56 [.int .i64,.int .i64] S.length fun i=>QA.enc (S.getD i ⟨0,0⟩))]
noncomputable abbrev K9(S:List QB)(i:Nat):Int:=
  (↑(BitVec.ofInt 64 ((L.getD i 0).fdiv ((2:Int)^min (S.getD i ⟨0,0⟩).cell.toNat 64)) &&& BitVec.ofInt 64 (1:Int)).toNat:Int)
theorem QS6(S:List QB)(L:List Int)(al:Int)(T:List QB)(i:Nat)(g:Nat→Value):exec (mkS Try.prog (Vf Try.prog pb d w)) (hnd (mkS Try.prog (Vf Try.prog pb d w)) 3) (Qd Try.f5 2) (JSt.inst (Ha S L al T i) g) (KS [] QOo) = .br (decide ((i :
  Int)<(S.length:Int))) (.need (decide ((0:Int)≤(i:Int)∧(i:Int)<(S.length:Int))&&decide (S.length≤S.length)) (.need (decide (i<S.length)) (.br ((S.getD i ⟨0,
  0⟩).cell == -2) (.need (decide ((0:Int)≤(i:Int))) (.need (!!i64.wrap (YD al i)==0||decide ((0:Int)≤(i:Int)∧(i:Int)<(T.length:Int))&&decide
  (T.length≤T.length)&&(!i64.wrap (YD al i)==0 && !i64.wrap (YD al i)==0)) (.need (!!i64.wrap (YD al i)==0 || !i64.wrap (YD al i) ==
  0) (.need (!!i64.wrap (YD al i)==0||decide (i<T.length) && !i64.wrap (YD al i)==0) (.need (!!i64.wrap (YD al i)==0 || !i64.wrap (YD
  al i)==0) (.need (i64.wrap (YD al i)==0 || !i64.wrap (YD al i)==0) (.bnd (i64.wrap (YD al i)==0||decide ((T.getD i ⟨0,0⟩).cell≥0)) (fun
  (x0:Bool) => .br (x0) (.leaf (.tup [.nili,.ptr 332 0 0,.bool true false]) ([])) (.leaf (.tup (QQl L S T al i)) ((QFs L S T i))))))))))) (.need (decide ((0:Int)≤(i:Int)
  ∧ (i:Int)<(L.length:Int))&&decide (L.length≤L.length)) (.need (decide (i<L.length)) (.need (decide ((0:Int)≤(S.getD i ⟨0,0⟩).cell)) (.need (!!i64.wrap (K9
  L S i)==0||decide ((0:Int)≤(i:Int)∧(i:Int)<(T.length:Int))&&decide (T.length≤T.length)&&(!i64.wrap (K9 L S i)==0 && !i64.wrap (K9 L S
  i)==0)) (.need (!!i64.wrap (K9 L S i)==0 || !i64.wrap (K9 L S i)==0) (.need (!!i64.wrap (K9 L S i)==0||decide (i<T.length) &&
  !i64.wrap (K9 L S i)==0) (.need (!!i64.wrap (K9 L S i)==0 || !i64.wrap (K9 L S i)==0) (.need (!!i64.wrap (K9 L S i)==0 ||
  !i64.wrap (K9 L S i)==0) (.need (!(!i64.wrap (K9 L S i)==0&&(T.getD i ⟨0,0⟩).cell != -1)||decide ((0:Int)≤(i:Int)∧(i:Int)<(T.length:Int))
  && decide (T.length≤T.length)&&(!i64.wrap (K9 L S i)==0&&(T.getD i ⟨0,0⟩).cell != -1&&(!i64.wrap (K9 L S i)==0&&(T.getD i ⟨0,0⟩).cell != -1)))
  (.need (!(!i64.wrap (K9 L S i)==0&&(T.getD i ⟨0,0⟩).cell != -1) || !i64.wrap (K9 L S i)==0&&(T.getD i ⟨0,0⟩).cell != -1) (.need (!(!i64.wrap
  (K9 L S i)==0&&(T.getD i ⟨0,0⟩).cell != -1)||decide (i<T.length)&&(!i64.wrap (K9 L S i)==0&&(T.getD i ⟨0,0⟩).cell != -1)) (.need (!(!i64.wrap
  (K9 L S i)==0&&(T.getD i ⟨0,0⟩).cell != -1) || !i64.wrap (K9 L S i)==0&&(T.getD i ⟨0,0⟩).cell != -1) (.need (!(!i64.wrap (K9 L S i)==0&&(T.getD i
  ⟨0,0⟩).cell != -1) || !i64.wrap (K9 L S i)==0&&(T.getD i ⟨0,0⟩).cell != -1&&(!i64.wrap (K9 L S i)==0&&(T.getD i ⟨0,0⟩).cell != -1)) (.need
  (!!i64.wrap (K9 L S i)==0 || !i64.wrap (K9 L S i)==0&&(!(T.getD i ⟨0,0⟩).cell != -1 || !i64.wrap (K9 L S i)==0&&(T.getD i ⟨0,0⟩).cell !=
  -1)) (.bnd ((T.getD i ⟨0,0⟩).cell != -1&&(T.getD i ⟨0,0⟩).cell != (S.getD i ⟨0,0⟩).cell) (fun(x1:Bool) => .need (i64.wrap (K9 L S i)==0 || !i64.wrap
  (K9 L S i)==0) (.bnd (i64.wrap (K9 L S i)==0||x1) (fun(x2:Bool) => .need (!!x2||decide ((0:Int)≤(i:Int)∧(i:Int)<(T.length:Int))&&decide
  (T.length≤T.length)&&(!x2 && !x2)) (.need (!!x2 || !x2) (.need (!!x2||decide (i<T.length) && !x2) (.need (!!x2 || !x2) (.need (!!x2 || !x2 && !x2) (.need (!!x2 || !x2)
  (.need (!(!x2&&(T.getD i ⟨0,0⟩).cell==(S.getD i ⟨0,0⟩).cell)||decide ((0:Int)≤(i:Int)∧(i:Int)<(T.length:Int))&&decide (T.length≤T.length)&&(!x2 &&
  (T.getD i ⟨0,0⟩).cell==(S.getD i ⟨0,0⟩).cell&&(!x2&&(T.getD i ⟨0,0⟩).cell==(S.getD i ⟨0,0⟩).cell))) (.need (!(!x2&&(T.getD i ⟨0,0⟩).cell==(S.getD i ⟨0,0⟩).cell) ||
  !x2&&(T.getD i ⟨0,0⟩).cell==(S.getD i ⟨0,0⟩).cell) (.need (!(!x2&&(T.getD i ⟨0,0⟩).cell==(S.getD i ⟨0,0⟩).cell)||decide (i<T.length)&&(!x2&&(T.getD i ⟨0,
  0⟩).cell==(S.getD i ⟨0,0⟩).cell)) (.need (!(!x2&&(T.getD i ⟨0,0⟩).cell==(S.getD i ⟨0,0⟩).cell) || !x2&&(T.getD i ⟨0,0⟩).cell==(S.getD i ⟨0,0⟩).cell) (.need (!!x2 ||
  !x2&&(!(T.getD i ⟨0,0⟩).cell==(S.getD i ⟨0,0⟩).cell || !x2&&(T.getD i ⟨0,0⟩).cell==(S.getD i ⟨0,0⟩).cell)) (.bnd ((T.getD i ⟨0,0⟩).cell==(S.getD i ⟨0,0⟩).cell &&
  (T.getD i ⟨0,0⟩).turn != 0) (fun(x3:Bool) => .need (!!x2 || !x2) (.need (!(!x2&&x3)||decide ((0:Int)≤(i:Int)∧(i:Int)<(T.length:Int))&&decide (T.length ≤
  T.length)&&(!x2&&x3&&(!x2&&x3))) (.need (!(!x2&&x3) || !x2&&x3) (.need (!(!x2&&x3)||decide (i<T.length)&&(!x2&&x3)) (.need (!(!x2&&x3) || !x2&&x3) (.need
  (!(!x2&&x3) || !x2&&x3&&(!x2&&x3)) (.need (!!x2 || !x2&&(!x3 || !x2&&x3)) (.bnd (x3&&(T.getD i ⟨0,0⟩).turn != (S.getD i ⟨0,0⟩).turn) (fun(x4:Bool) => .need (x2 ||
  !x2) (.bnd (x2||x4) (fun(x5:Bool) => .br (x5) (.leaf (.tup [.nili,.ptr 332 0 0,.bool true false]) ([])) (.leaf (.tup (QQl L S T al i)) ((QFs L S T
  i)))))))))))))))))))))))))))))))))))))))))))))) (.leaf (.tup [.ptr 4 0 0,.ptr 332 0 0]) ([])):=by kernel_rfl
noncomputable abbrev QNK(M:Made)(i:Nat):List AV:=
  [.ptr 8 0 0,.ptr 320 0 0,.slz 400 0 M.m cO,.map 344,vi M.gone,.slz 400 0 M.m cO,vi (M.m:Int),vi (i64.wrap ((i
  : Int)+1))]
abbrev QMu(M:Made)(i:Nat)(i':Nat):List Prop:=
  [0=0,0=0,0=0,0=0,0=0,M.m=M.m,cO=cO,M.gone=M.gone,0=0,M.m=M.m,cO=cO,(M.m:Int)=(M.m:Int),i64.wrap ((i:Int) +
  1)=(i':Int)]
abbrev Hx:List Prop:=
  [d.play.slack=d.play.slack,d.play.loose=d.play.loose,d.play.damp.lo=d.play.damp.lo,d.play.damp.hi=d.play.damp.hi,d.wide=d.wide,d.high=d.high,d.turn=d.turn,0 =
  0,d.ps.n=d.ps.n,cO=cO]
abbrev QQq(M:Made)(fo:Int)(i:Nat):List Prop:=
  [cO=cO,M.lost=M.lost,fo=fo,KA (.int true .i64 0) (.int true .i64 0) M.has M.has (fun i => .int false .i64 (M.at_ i)) fun i => .int false .i64 (M.at_ i),M.m
  ≤ M.m,QC 2 M.m (fun i=>QA.enc (M.S i)) fun i=>QA.enc (M.S i),M.m≤M.m,QC 28 M.m (fun i=>QA.enc (M.P i)) fun i=>QA.enc (M.P i)]
theorem QLS(M:Made)(fo:Int)(h h':Nat)(H H':Nat→Jn)(i i':Nat):QK 8 (QNK M i) ((QFH H M d fo h i)) (qU d M fo h' H' i')=(some ((QMu M i i')++[d.play.length=d.play.length]++(Hx d)++[d.play.length=d.play.length]++(Hx
  d)++[0=0,M.m=M.m,cO=cO,0=0,h=h']++(QQq M fo i)++[h'≤h,QC 4 h' (fun i=>QA.enc (H i)) fun i=>QA.enc (H' i),d.ps.n≤d.ps.n,QC 28
  d.ps.n (fun i=>QA.enc (d.ps.get i)) fun i=>QA.enc (d.ps.get i)])):=by kernel_rfl
theorem Qct(M:Made)(fo:Int)(h h':Nat)(H H':Nat→Jn)(i i':Nat):QK 8 (QNK M i) ((QM1 H M d fo h i)) (qU d M fo h' H' i')=(some ((QMu M i i')++[d.play.length=d.play.length]++(Hx d)++[d.play.length=d.play.length]++(Hx
  d)++[0=0,M.m=M.m,cO=cO,0=0,h+1=h']++(QQq M fo i)++[h'≤h+1,QC 4 h' (QY h (fun i=>QA.enc (H i)) (QR [(QNe M d i)] 0)) fun i=>
  QA.enc (H' i),d.ps.n≤d.ps.n,QC 28 d.ps.n (fun i=>QA.enc (d.ps.get i)) fun i=>QA.enc (d.ps.get i)])):=by kernel_rfl
theorem QbQ(M:Made)(fo:Int)(h:Nat)(H:Nat→Jn):QK 8 [.ptr 320 0 0,.slz 400 0 M.m cO,vi M.gone] ([(QEh M d fo h),(400,.rowz true 56 [.int .i64,.int .i64] M.m fun i=>QA.enc (M.S i)),(0,.frz W0
  d.ps.n fun i=>QA.enc (d.ps.get i)),(408,.rowz true 33 W0 M.m fun i=>QA.enc (M.P i)),(416,.rowz true 70 QC1 h fun i=>QA.enc (H i))]) (QDQ d M fo h H)=(some
  ([0=0,0=0,0=0,M.m=M.m,cO=cO,M.gone=M.gone,d.play.length=d.play.length]++(Hx d)++[0=0,M.m=M.m,cO=cO,0=0,h=h,cO
  = cO,M.lost=M.lost,fo=fo,M.m≤M.m,QC 2 M.m (fun i=>QA.enc (M.S i)) fun i=>QA.enc (M.S i),M.m≤M.m,QC 28 M.m (fun i=>QA.enc (M.P i)) fun i=>
  QA.enc (M.P i),h≤h,QC 4 h (fun i=>QA.enc (H i)) fun i=>QA.enc (H i),d.ps.n≤d.ps.n,QC 28 d.ps.n (fun i=>QA.enc (d.ps.get i)) fun i=>QA.enc (d.ps.get
  i)])):=by kernel_rfl
theorem QIf(al:Int)(T:List QB)(i i':Nat):QK 8 [.slz 424 0 L.length cO,vi al,.slz 432 0 T.length cO,.slz 400 0 S.length cO,vi (S.length:Int),.int false .i64
  (i64.wrap ((i:Int)+1))] ((QFs L S T i)) (Ha S L al T i')=(some [0=0,L.length=L.length,cO=cO,al=al,0=0,T.length=T.length,cO =
  cO,0=0,S.length=S.length,cO=cO,(S.length:Int)=(S.length:Int),i64.wrap ((i:Int)+1)=(i':Int),S.length≤S.length,QC 2 S.length
  (fun i=>QA.enc (S.getD i ⟨0,0⟩)) fun i=>QA.enc (S.getD i ⟨0,0⟩),L.length≤L.length,QC 1 L.length (fun i=>QA.enc (L.getD i 0)) fun i=>QA.enc (L.getD i 0),
  T.length≤T.length,QC 2 T.length (fun i=>QA.enc (T.getD i ⟨0,0⟩)) fun i=>QA.enc (T.getD i ⟨0,0⟩)]):=by kernel_rfl
theorem QTq :QK 8 [] ([]) QB2=(
  some []):=by kernel_rfl
theorem QDU{w:Rw QO}{k:Int}{e:Edge}(h:e.ok=true):(wdE w k e).ok=true∧QCz e (wdE w k e):=by
 cases hk:e.kind != 0 with
 | false=>
  have hk':e.kind=0:=by simpa using hk
  rw[(G8 hk).1];exact⟨h,rfl,fun q=>absurd hk' q⟩
 | true=>
  have hk':e.kind≠0:=by simpa using hk
  have d1:=ZT w k (m:=30) (by decide)
  have d2:=ZT w (k+1) (m:=30) (by decide)
  have d3:=ZT w (k+1+1) (m:=50) (by decide)
  have d4:=ZT w (k+1+1+1) (m:=50) (by decide)
  have d5:=ZT w (k+1+1+1+1) (m:=20) (by decide)
  have d6:=ZT w (k+1+1+1+1+1) (m:=20) (by decide)
  have h':=h;rw[Edge.ok_iff]at h';rw[(Hd hk).1,w64 (n:=e.at_.lo-dv w k 30) (by omega) (by omega),w64 (n:=e.at_.hi+dv w (k+1) 30) (by omega) (by omega),w64 (n:=e.wide.lo-dv w (k+1+1) 50) (by omega) (by omega),w64 (n:=e.wide.hi+dv w (k+1+1+1) 50) (by omega) (by omega),w64 (n:=e.deep.lo-dv w (k+1+1+1+1) 20) (by omega) (by omega),w64 (n:=e.deep.hi+dv w (k+1+1+1+1+1) 20) (by omega) (by omega)]
  refine⟨?_,rfl,fun _=>⟨rfl,?_,?_,?_⟩⟩
  ·rw[Edge.ok_iff];simp only;omega
  all_goals simp only;omega
theorem QD9(q:QG)(k:Int)(e:Nat→Edge)(he:e=fun s=>wdE w (scK q k s) (Ky q s)):scS 0 w q k 4=⟨e 0,e 1,e 2,e 3⟩∧scS 1 w q k 4=⟨e 1,e 2,e 3,e 0⟩∧scS 2 w q k 4=⟨e 2,e 3,e 0,e 1⟩∧scS 3 w q k 4=⟨e 3,e 0,e 1,e 2⟩:=by
 subst he;exact⟨rfl,rfl,rfl,rfl⟩
theorem QMv{t:Int}(ht:0≤t∧t<4):t=0∨t=1∨t=2∨t=3:=by omega
theorem QNl{t:Int}(ht:0≤t∧t<4)(w:Rw QO)(q:QG)(k:Int):Yz (scS t w q k 4) ((5-t).tmod 4)=wdE w (scK q k 1) (Ky q 1)∧Yz (scS t w q k 4) ((7-t).tmod 4)=wdE w (scK q k 3) (Ky q 3):=by
 obtain⟨e0,e1,e2,e3⟩:=QD9 w q k _ rfl;rcases QMv ht with e|e|e|e<;>subst e
 ·rw[e0];exact⟨rfl,rfl⟩
 ·rw[e1];exact⟨rfl,rfl⟩
 ·rw[e2];exact⟨rfl,rfl⟩
 ·rw[e3];exact⟨rfl,rfl⟩
theorem QPc{q:QG}(hq:q.ok=true):∀ s,s<4→(Ky q s).ok=true:=by
 simp only[QG.ok,qbA]at hq;intro s hs;rcases(by omega:s=0∨s=1∨s=2∨s=3)with rfl|rfl|rfl|rfl
 ·exact hq.1
 ·exact hq.2.1
 ·exact hq.2.2.1
 ·exact hq.2.2.2
theorem QTU{t:Int}(ht:0≤t∧t<4)(w:Rw QO){q:QG}(k:Int)(hq:q.ok=true):(scS t w q k 4).ok=true:=by
 have h:∀ s,s<4→(wdE w (scK q k s) (Ky q s)).ok=true:=fun s hs=>(QDU (QPc hq s hs)).1;obtain⟨e0,e1,e2,e3⟩:=QD9 w q k _ rfl;rcases QMv ht with e|e|e|e<;>subst e<;>(first|rw[e0]|rw[e1]|rw[e2]|rw[e3])<;>simp only[QG.ok,h 0 (by decide),h 1 (by decide),h 2 (by decide),h 3 (by decide),Bool.and_self]
theorem QXn{w:Rw QO}{k:Int}{e:Edge}(h:e.ok=true):isS (wdE w k e) e=true:=QU1 (QDU h).2 (QdQ h)
theorem Qay{d:Puz}{c:Nat}{t:Nat}(ht:t<4)(w:Rw QO)(k:Int)(hq:(d.ps.get c).ok=true):VG d (scS (t:Int) w (d.ps.get c) k 4) c t=true:=by
 have h:∀ s,s<4→isS (wdE w (scK (d.ps.get c) k s) (Ky (d.ps.get c) s)) (Ky (d.ps.get c) s)=true:=fun s hs=>QXn (QPc hq s hs);have h0:=h 0 (by decide)
 have h1:=h 1 (by decide)
 have h2:=h 2 (by decide)
 have h3:=h 3 (by decide)
 obtain⟨e0,e1,e2,e3⟩:=QD9 w (d.ps.get c) k _ rfl;unfold VG;simp only[qbA];rcases(by omega:t=0∨t=1∨t=2∨t=3)with rfl|rfl|rfl|rfl
 ·rw[show(((0:Nat):Int))=0 from rfl,e0];exact⟨h0,h1,h2,h3⟩
 ·rw[show(((1:Nat):Int))=1 from rfl,e1];exact⟨h0,h1,h2,h3⟩
 ·rw[show(((2:Nat):Int))=2 from rfl,e2];exact⟨h0,h1,h2,h3⟩
 ·rw[show(((3:Nat):Int))=3 from rfl,e3];exact⟨h0,h1,h2,h3⟩
end Go.Proofs.Ytbpffdkemeoajaa
