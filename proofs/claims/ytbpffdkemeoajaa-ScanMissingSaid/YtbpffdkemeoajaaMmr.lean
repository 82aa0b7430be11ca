/- Lists of sides: which is the first that is not valid; are all valid? -/
import Derived.Test.YtbpffdkemeoajaaMmo
import Derived.Test.YtbpffdkemeoajaaMmq
set_option maxRecDepth 100000
namespace Go.Proofs.Ytbpffdkemeoajaa
open Go.SX
def Qf (fn:Func) (k:Nat):Code:=match (Ke (Qm fn))[k]? with
 | some (.loop b)=>b
 | _ => .skip
instance : QB Edge where
  ks := [.int .i64, .int .i64, .int .i64, .int .i64, .int .i64, .int .i64, .int .i64]
  enc e j := match j with
    | 0 => e.kind
    | 1 => e.at_.lo
    | 2 => e.at_.hi
    | 3 => e.wide.lo
    | 4 => e.wide.hi
    | 5 => e.deep.lo
    | _ => e.deep.hi
  dec f := ⟨f 0, ⟨f 1, f 2⟩, ⟨f 3, f 4⟩, ⟨f 5, f 6⟩⟩
  ok _ := rfl
structure FnK (g:Nat) where
 u:Unit
instance (g : Nat) : Enc (FnK g) where
  enc _ := .fn (.func g) []
  dec v := match v with
    | .fn (.func g') [] => (match Nat.beq g' g with | true => some ⟨()⟩ | false => none)
    | _ => none
  ok v x h := by
    split at h <;> (try (cases h; done))
    split at h <;> (try (cases h; done))
    rename_i hg
    have := Nat.eq_of_beq_eq_true hg
    subst this
    exact ⟨fun _ => rfl, rfl⟩
def QK (p:Nat→Bool):Nat→Nat→Option Nat
 | 0,_=>none
 | m + 1,k=>match p k with
  | true=>some k
  | false=>QK p m (k + 1)
def KH:Option Nat→Int
 | some i=>i
 | none => -1
def XB (p:Nat→Bool) (n:Nat):Bool:=(QK (fun i => !p i) n 0).isNone
theorem GI {p:Nat→Bool}:∀ {m k:Nat},QK p m k=none→∀ i,k≤i→i < k + m→p i=false
 | 0,k,_,i,h1,h2=>by omega
 | m + 1,k,h,i,h1,h2=>by
  simp only [QK] at h
  split at h
  ·cases h
  ·rename_i hk
   rcases Nat.eq_or_lt_of_le h1 with rfl|hlt
   ·exact hk
   ·exact GI h i hlt (by omega)
theorem QKr {p:Nat→Bool} {n:Nat} (h:XB p n=true) {i:Nat} (hi:i < n):p i=true:=by
 unfold XB at h
 rw [Option.isNone_iff_eq_none] at h
 have:=GI h i (Nat.zero_le _) (by omega)
 simpa using this
theorem QFr {p:Nat→Bool}:∀ {m k:Nat},(∀ i,k≤i→i < k + m→p i=false)→QK p m k=none
 | 0,_,_=>rfl
 | m + 1,k,h=>by
  simp only [QK]
  rw [h k (Nat.le_refl _) (by omega)]
  exact QFr fun i h1 h2=>h i (by omega) (by omega)
def QG7:Edge×Unit→Bool×AV:=fun|(s,_)=>(true,.bool false (!s.ok))
def QEA:FC:=Qw (Qx QG7)
theorem QOM (s:Edge):Qs (mkE Try.prog Hy) (hnd (mkE Try.prog Hy) 0) false Try.f84 (Qi.enc ((s,()):Edge×Unit)) [] 0 =
  QC.need (true) (QC.leaf (AV.bool false !s.ok) ([])):=by kernel_rfl
theorem QS8:QM Try.prog 84 QEA:=by
 refine Q2 QFk 0 Try.func84 (by kernel_rfl) (by kernel_rfl) ?_
 rintro ⟨s,⟨⟩⟩ hp
 rw [QOM s]
 simp only [QG7,QC.den,AV.same,AV.sameL,and_true,true_and] at hp ⊢
def V1:Tab:=QX Hy 84 QEA
theorem jl:QU V1:=QFk.add QS8
def K7 (l:Rw Edge) (i:Nat):Bool := !(l.get i).ok
def GJ (l:Rw Edge) (k:Nat):JSt:=⟨19,[(0,.slz 0 0 l.n (.of 0)),(1,.fn (.func 84) []),(7,.int false .i64 l.n),(8,.int false .i64 k)],Qy.blk 0 l,8⟩
def Wg:Ex→List Nat
 | .normal=>[0,1,7,8]
 | .exit _=>[]
 | .ret=>[4]
theorem QPn (l:Rw Edge) (k:Nat) (g:Nat→Value):exec (mkE Try.prog V1) (hnd (mkE Try.prog V1) 0) (Qf Try.f96 0) (JSt.inst (GJ l k) g) (KT [] Wg) =
  QC.br (decide ((↑k:Int) < (↑l.n:Int))) (QC.need (decide ((0:Int)≤(↑k:Int)∧(↑k:Int) < (↑l.n:Int))&&decide (l.n≤l.n)) (QC.need (decide (k < l.n)) (QC.need
  (true) (QC.br (!(l.get k).ok) (QC.leaf (AV.tup [AV.nili,AV.ptr (19:Nat) (0:Nat) (0:Nat),AV.int false IntKind.i64 (↑k:Int)]) ([])) (QC.leaf (AV.tup [AV.nilp,AV.ptr
  (19:Nat) (0:Nat) (0:Nat),AV.slz (0:Nat) (0:Nat) l.n (Cap.of (0:Nat)),AV.fn (Fn.func (84:Nat)) [],AV.int false IntKind.i64 (↑l.n:Int),AV.int false IntKind.i64
  (IntKind.i64.wrap ((↑k:Int) + (1:Int)))]) ([((0:Nat),Blk.frz [CK.int IntKind.i64,CK.int IntKind.i64,CK.int IntKind.i64,CK.int IntKind.i64,CK.int IntKind.i64,CK.int
  IntKind.i64,CK.int IntKind.i64] l.n fun i=>QB.enc (l.get i))])))))) (QC.leaf (AV.tup [AV.ptr (0:Nat) (0:Nat) (0:Nat),AV.ptr (19:Nat) (0:Nat) (0:Nat)]) ([])):=by kernel_rfl
def QKX (l:Rw Edge) (k:Nat) (e:Ex) (J:JSt):Prop:=(e = .ret∧(QK (K7 l) (l.n - k) k).isSome=true∧J=⟨19,[(4,.int false .i64 (KH (QK (K7 l) (l.n - k) k)))],[],8⟩)∨(e = .exit 0∧QK (K7 l) (l.n - k) k=none∧J=⟨19,[],[],8⟩)
theorem QNH (l:Rw Edge) (k:Nat) (i:Int):QO 8 [.slz 0 0 l.n (.of 0),.fn (.func 84) [],.int false .i64 l.n,.int false .i64 i] (Qy.blk 0 l) (GJ l k)=(
  some [(0:Nat)=(0:Nat),l.n=l.n,Cap.of (0:Nat)=Cap.of (0:Nat),Fn.func (84:FuncId)=Fn.func (84:FuncId),(↑l.n:Int)=(↑l.n:Int),i=(↑k:Int),l.n≤l.n,
  QD (7:Nat) l.n (fun i=>QB.enc (l.get i)) fun i=>QB.enc (l.get i)]):=by kernel_rfl
theorem Zk (i j:Int):QO 8 [.int false .i64 i] [] ⟨19,[(4,.int false .i64 j)],[],8⟩=(
  some [i=j]):=by kernel_rfl
theorem QAw :QO 8 [] [] ⟨19,[],[],8⟩=(
  some []):=by kernel_rfl
theorem QNj (l:Rw Edge) (hl:l.n≤1000):JK (GJ l) (fun k=>k≤l.n) (fun k=>l.n - k) (QKX l) 8 Wg [] (mkE Try.prog V1) (fun _=>hnd (mkE Try.prog V1) 0) (Qf Try.f96 0):=by
 refine ⟨fun k g hk=>⟨vC (QPn l k g) ?_⟩⟩
 refine QL (fun h => ?_) (fun h => ?_)
 ·have h:k < l.n:=by have:=of_decide_eq_true h;omega
  obtain ⟨m,hm⟩:∃ m,l.n - k=m + 1:=⟨l.n - k - 1,by omega⟩
  have hm':l.n - (k + 1)=m:=by omega
  refine QF (by simp;omega) (QF (by simp;omega) (QF rfl (QL (fun hb => ?_) (fun hb => ?_))))
  ·have hf:QK (K7 l) (l.n - k) k=some k:=by rw [hm,QK];unfold K7;rw [hb]
   exact ⟨_,.inl ⟨rfl,by rw [hf];rfl,rfl⟩,rfl,rfl,_,Zk _ _,by rw [hf];exact ⟨rfl,trivial⟩⟩
  ·have hf:QK (K7 l) (l.n - k) k=QK (K7 l) (l.n - (k + 1)) (k + 1):=by rw [hm,hm',QK];unfold K7;rw [hb]
   refine ⟨k + 1,by omega,by show l.n - (k + 1) < l.n - k;omega,fun e J h=>by unfold QKX at h ⊢;rw [hf];exact h,rfl,rfl,_,QNH _ _ _,?_⟩
   exact ⟨rfl,rfl,rfl,rfl,rfl,(w64 (by omega) (by omega)).trans (by omega),Nat.le_refl _,QD.refl _ _ _,trivial⟩
 ·have h:l.n≤k:=by have:=of_decide_eq_false h;omega
  have hf:QK (K7 l) (l.n - k) k=none:=by rw [show l.n - k=0 by omega];rfl
  exact ⟨_,.inr ⟨rfl,hf,rfl⟩,rfl,rfl,_,QAw,trivial⟩
def QMW (l:Rw Edge):List (Prop×Ex×JSt):=[((QK (K7 l) l.n 0).isSome=true,.ret,⟨19,[(4,.int false .i64 (KH (QK (K7 l) l.n 0)))],[],8⟩),(QK (K7 l) l.n 0=none,.exit 0,⟨19,[],[],8⟩)]
abbrev zO (P:Program) (l:Rw Edge):Hnd:={ hnd (mkE P V1) 1 with loop:=fun _=>KC 8 [] (GJ l 0) (QMW l) }
theorem QMY (l:Rw Edge) (hl:l.n≤1000) (G:Ctx) (hrd:G.rd=none) (hG:G.n=8):Q4 (mkE Try.prog V1) G (zO Try.prog l) (Qm Try.f96):=by
 refine JR (body:=Qf Try.f96 0) (QN jl) hrd (by kernel_rfl) ?_
 refine Je (n0:=8) (QN jl) (by omega) (fun s hs=>Qt (QN jl) 0 G _ hrd) (fun s hs=>Nat.le_refl _) ?_ (QNj l hl) (s0:=0) (Nat.zero_le _) ?_
 ·rintro s e J (⟨_,_,rfl⟩|⟨_,_,rfl⟩)<;>exact Nat.le_refl _
 ·rintro e J (⟨rfl,h,rfl⟩|⟨rfl,h,rfl⟩)
  ·exact ⟨_,List.mem_cons_self,h,rfl,rfl⟩
  ·exact ⟨_,List.mem_cons_of_mem _ List.mem_cons_self,h,rfl,rfl⟩
theorem QRA (l:Rw Edge) (x:FnK 84):KY (mkE Try.prog V1) (zO Try.prog l) Try.f96 (QS.vals 0 (l,x,())) (QS.blks 0 (l,x,())) 8 =
  QC.ask ((0:Nat)=(0:Nat)) (QC.ask (l.n=l.n) (QC.ask (Cap.of (0:Nat)=Cap.of (0:Nat)) (QC.ask (Fn.func (84:Nat)=Fn.func (84:FuncId)) (QC.ask ((↑l.n:Int)
  = (↑l.n:Int)) (QC.ask ((0:Int)=(0:Int)) (QC.ask (l.n≤l.n) (QC.ask (QD (7:Nat) l.n (fun i=>QB.enc (l.get i)) fun i=>QB.enc (l.get i)) (QC.both
  (QC.asm ((QK (K7 l) l.n (0:Nat)).isSome=true) (QC.all (fun (g0:Nat→Value)=>QC.leaf (AV.int false IntKind.i64 (KH (QK (K7 l) l.n (0:Nat)))) ([]))))
  (QC.asm (QK (K7 l) l.n (0:Nat)=none) (QC.all (fun (g1:Nat→Value)=>QC.leaf (AV.int true IntKind.i64 (-1:Int)) ([])))))))))))):=by kernel_rfl
def H4:WF (Rw Edge×FnK 84×Unit):=fun x=>(decide (x.1.n≤1000),.int false .i64 (KH (QK (K7 x.1) x.1.n 0)),[])
def QJY:FC:=wFC H4
theorem QMC:Kz (mkE Try.prog V1) (Qm Try.f96) 8 H4 (fun x=>zO Try.prog x.1):=
 ⟨fun x hx G h1 h2=>QMY x.1 (of_decide_eq_true hx) G h1 h2⟩
theorem QSe:K1 (mkE Try.prog V1) Try.f96 8 H4 (fun x=>zO Try.prog x.1):=by
 refine ⟨?_⟩
 rintro ⟨l,x,⟨⟩⟩ hp
 refine ⟨⟨rfl,by simp [H4],rfl⟩,⟨?_⟩⟩
 rw [QRA l x]
 refine Qc rfl (Qc rfl (Qc rfl (Qc rfl (Qc rfl (Qc rfl (Qc (Nat.le_refl _) (Qc (QD.refl _ _ _) (Xc (KQ fun h=>KX fun g => ?_) (KQ fun h=>KX fun g => ?_)))))))))
 ·exact Ki ⟨rfl,rfl⟩ rfl
 ·exact Ki ⟨rfl,by show (-1:Int)=KH (QK (K7 l) l.n 0);rw [h];rfl⟩ rfl
theorem QOy:QM Try.prog 96 QJY:=
 K6 (QN jl) Try.func96 (by kernel_rfl) (by kernel_rfl) (by decide) QMC QSe
def Y6:Tab:=QX V1 96 QJY
theorem QCn:QU Y6:=jl.add QOy
def qi:WF ((Rw Edge)×(FnK 84)×Unit):=fun|(l,(x,_))=>(decide (l.n≤1000),.bool false (decide (KH (QK (K7 l) l.n 0)≥0)),[])
def QGv:FC:=wFC qi
theorem QLT (l:(Rw Edge)) (x:(FnK 84)):KY (mkE Try.prog Y6) (hnd (mkE Try.prog Y6) 0) Try.f83 (QS.vals 0 ((l,x,()):(Rw Edge)×(FnK 84)×Unit)) (QS.blks 0 ((l,x,()):(Rw Edge)×(FnK 84)×Unit)) 8 =
  QC.need (decide (l.n≤l.n)&&(true&&true)&&decide (l.n≤(1000:Nat))) (QC.leaf (AV.bool false (decide (KH (QK (K7 l) l.n (0:Nat))≥(0:Int)))) ([])):=by kernel_rfl
theorem QP2:Kz (mkE Try.prog Y6) (Qm Try.f83) 8 qi (fun x_=>(hnd (mkE Try.prog Y6) 0)):=by
 refine ⟨?_⟩
 rintro ⟨l,⟨x,⟨⟩⟩⟩ hp G h1 h2
 exact Qt (QN QCn) 0 G _ h1
theorem QRm:K1 (mkE Try.prog Y6) Try.f83 8 qi (fun x_=>(hnd (mkE Try.prog Y6) 0)):=by
 refine ⟨?_⟩
 rintro ⟨l,⟨x,⟨⟩⟩⟩ hp
 refine ⟨⟨rfl,by simp [qi],rfl⟩,⟨?_⟩⟩
 rw [QLT l x]
 simp only [qi] at hp
 exact QF (by simpa using hp) (Ki rfl rfl)
theorem QLW:QM Try.prog 83 QGv:=
 K6 (QN QCn) Try.func83 (by kernel_rfl) (by kernel_rfl) (by decide) QP2 QRm
def Y4:Tab:=QX Y6 83 QGv
theorem QBZ:QU Y4:=QCn.add QLW
theorem QBF:∀ (o:Option Nat),(!decide (KH o≥0))=o.isNone
 | some i=>by simp [KH]
 | none=>rfl
def jp:WF ((Rw Edge)×Unit):=fun|(l,_)=>(decide (l.n≤1000),.bool false (XB (fun i=>(l.get i).ok) l.n),[])
def QHF:FC:=wFC jp
theorem QQM (l:(Rw Edge)):KY (mkE Try.prog Y4) (hnd (mkE Try.prog Y4) 0) Try.f60 (QS.vals 0 ((l,()):(Rw Edge)×Unit)) (QS.blks 0 ((l,()):(Rw Edge)×Unit)) 8 =
  QC.need (decide (l.n≤l.n)&&(true&&true)&&decide (l.n≤(1000:Nat))) (QC.leaf (AV.bool false !decide (KH (QK (K7 l) l.n (0:Nat))≥(0:Int))) ([])):=by kernel_rfl
theorem QNQ:Kz (mkE Try.prog Y4) (Qm Try.f60) 8 jp (fun x_=>(hnd (mkE Try.prog Y4) 0)):=by
 refine ⟨?_⟩
 rintro ⟨l,⟨⟩⟩ hp G h1 h2
 exact Qt (QN QBZ) 0 G _ h1
theorem QOE:K1 (mkE Try.prog Y4) Try.f60 8 jp (fun x_=>(hnd (mkE Try.prog Y4) 0)):=by
 refine ⟨?_⟩
 rintro ⟨l,⟨⟩⟩ hp
 refine ⟨⟨rfl,by simp [jp],rfl⟩,⟨?_⟩⟩
 rw [QQM l]
 simp only [jp] at hp
 exact QF (by simpa using hp) (Ki (QBF _) rfl)
theorem QLL:QM Try.prog 60 QHF:=
 K6 (QN QBZ) Try.func60 (by kernel_rfl) (by kernel_rfl) (by decide) QNQ QOE
def J9:Tab:=QX Y4 60 QHF
theorem vI:QU J9:=QBZ.add QLL
end Go.Proofs.Ytbpffdkemeoajaa
namespace Go.Proofs.Ytbpffdkemeoajaa
open Go.SX
def KW {α:Type} [QB α] (ty k:Nat) (l:List α) (d:α):Nat×Blk:=(k,.rowz true ty (QB.ks α) l.length fun i=>QB.enc (l.getD i d))
def Ka (q:Nat→Bool):Nat→List Int
 | 0=>[]
 | k + 1=>match q k with
  | true=>Ka q k++[(k:Int)]
  | false=>Ka q k
theorem QHU (q:Nat→Bool):∀ k,(Ka q k).length≤k
 | 0=>Nat.le_refl _
 | k + 1=>by
  have:=QHU q k
  simp only [Ka]
  split<;>simp<;>omega
def Kj (p:Qg) (s:Edge) (least:Int) (l:Rw Edge) (i:Nat):Bool:=decide (Xz p s (l.get i)≥least)
def Ye (p:Qg) (s:Edge) (least:Int) (l:Rw Edge) (o:List Int) (k:Int):JSt:=
 ⟨30,[(2,.int false .i64 least),(4,.ptr 8 0 0),(5,.ptr 16 0 0),(8,.slz 24 0 o.length (.of 0)),(11,.slz 3 0 l.n (.of 0)),(12,.int false .i64 l.n),(13,.int false .i64 k)],
  [(8,.cells 0 25 (Enc.enc p).cells),(16,.cells 0 30 (Enc.enc s).cells),KW 3 24 o 0]++Qy.blk 3 l,32⟩
def QDf:Ex→List Nat
 | .normal=>[2,4,5,8,11,12,13]
 | _=>[8]
abbrev QJM (p:Qg):Nat×Blk:=
  (8,.cells 0 25 [.int false .i64 p.length,.int false .i64 p.slack,.int false .i64 p.loose,.int false .i64 p.damp.lo,.int false .i64 p.damp.hi])
abbrev QGI (s:Edge):Nat×Blk:=
  (16,.cells 0 30 [.int false .i64 s.kind,.int false .i64 s.at_.lo,.int false .i64 s.at_.hi,.int false .i64 s.wide.lo,.int false .i64 s.wide.hi,.int false .i64 s.deep.lo,.int
  false .i64 s.deep.hi])
abbrev QFh (l:Rw Edge):Nat×Blk:=
  (3,.frz [.int .i64,.int .i64,.int .i64,.int .i64,.int .i64,.int .i64,.int .i64] l.n fun i=>QB.enc (l.get i))
theorem QPl (p:Qg) (s:Edge) (least:Int) (l:Rw Edge) (o:List Int) (k:Nat) (g:Nat→Value) :exec (mkE Try.prog J9) (hnd (mkE Try.prog J9) 0) (Qf Try.f91 0) (JSt.inst (Ye p s least l o k) g) (KT [] QDf) = .br (decide ((↑k:Int) < (↑l.n:Int)))
  (.need (decide ((0:Int)≤(↑k:Int)∧(↑k:Int) < (↑l.n:Int))&&decide (l.n≤l.n)) (.need (decide (k < l.n)) (.need (okP p s (l.get k)) (.br (decide (Xz p s (l.get k) ≥
  least)) (.need (decide (o.length≤o.length)&&(true&&decide ((o.length + 1 + (o.length + 1) / 4 + 192) * 8≤281474976710656∧o.length + 1≤9223372036854775807))) (.leaf (.tup
  [.nilp,.ptr 30 0 0,.int false .i64 least,.ptr 8 0 0,.ptr 16 0 0,.slz 160 0 (o.length + 1) (Cap.of 0),.slz 3 0 l.n (Cap.of 0),.int false .i64 (↑l.n:Int),.int false .i64
  (IntKind.i64.wrap ((↑k:Int) + (1:Int)))]) ([(QJM p),(QGI s),(160,.rowz true 3 [.int .i64] (o.length + 1) (Q1 o.length (fun i=>QB.enc (o.getD i (0:Int))) (Qb
  [[.int false .i64 (↑k:Int)]] 0))),(QFh l)]))) (.leaf (.tup [.nilp,.ptr 30 0 0,.int false .i64 least,.ptr 8 0 0,.ptr 16 0 0,.slz 24 0 o.length (Cap.of 0),.slz 3 0 l.n
  (Cap.of 0),.int false .i64 (↑l.n:Int),.int false .i64 (IntKind.i64.wrap ((↑k:Int) + (1:Int)))]) ([(QJM p),(QGI s),(24,.rowz true 3 [.int .i64] o.length fun i=>
  QB.enc (o.getD i (0:Int))),(QFh l)])))))) (.leaf (.tup [.ptr 0 0 0,.ptr 30 0 0,.slz 24 0 o.length (Cap.of 0)]) ([(24,.rowz true 3 [.int .i64] o.length fun i=>QB.enc
  (o.getD i (0:Int)))])):=by kernel_rfl
theorem QSG (o:List Int) (x:Int):QD 1 (o++[x]).length (Q1 o.length (fun i=>QB.enc (o.getD i 0)) (Qb [[AV.int false IntKind.i64 x]] 0)) (fun i=>QB.enc ((o++[x]).getD i 0)):=by
 intro i hi
 refine ⟨?_,trivial⟩
 rw [Xf]
 rw [List.length_append,List.length_singleton] at hi
 split
 ·rename_i h
  show o.getD i 0=(o++[x]).getD i 0
  rw [List.getD_eq_getElem?_getD,List.getD_eq_getElem?_getD,List.getElem?_append_left h]
 ·rename_i h
  have:i=o.length:=by omega
  subst this
  show x=(o++[x]).getD o.length 0
  simp
theorem QRt (p:Qg) (s:Edge) (least:Int) (l:Rw Edge) (n:Nat) (g:Nat→Nat→Int) (i:Int) (o:List Int) (k:Int):QO 8 [.int false .i64 least,.ptr 8 0 0,.ptr 16 0 0,.slz 24 0 n (.of 0),.slz 3 0 l.n (.of 0),.int false .i64 l.n,.int false .i64 i] ([(8,.cells 0 25 (Enc.enc p).cells),(16,.cells 0 30 (Enc.enc s).cells),(24,.rowz true 3 [.int .i64] n g)]++Qy.blk 3 l) (Ye p s least l o k)=(
  some [least=least,(0:Nat)=(0:Nat),(0:Nat)=(0:Nat),(0:Nat)=(0:Nat),(0:Nat)=(0:Nat),(0:Nat)=(0:Nat),n=o.length,Cap.of (0:Nat)=Cap.of (0 :
  Nat),(0:Nat)=(0:Nat),l.n=l.n,Cap.of (0:Nat)=Cap.of (0:Nat),(↑l.n:Int)=(↑l.n:Int),i=k,p.length=p.length,p.slack=p.slack,p.loose=p.loose,p.damp.lo
  = p.damp.lo,p.damp.hi=p.damp.hi,s.kind=s.kind,s.at_.lo=s.at_.lo,s.at_.hi=s.at_.hi,s.wide.lo=s.wide.lo,s.wide.hi=s.wide.hi,s.deep.lo=s.deep.lo,s.deep.hi =
  s.deep.hi,o.length≤n,QD (1:Nat) o.length g fun i=>QB.enc (o.getD i (0:Int)),l.n≤l.n,QD (7:Nat) l.n (fun i=>QB.enc (l.get i)) fun i=>QB.enc (l.get
  i)]):=by kernel_rfl
theorem QRb (p:Qg) (s:Edge) (least:Int) (l:Rw Edge) (n:Nat) (g:Nat→Nat→Int) (i:Int) (o:List Int) (k:Int):QO 8 [.int false .i64 least,.ptr 8 0 0,.ptr 16 0 0,.slz 160 0 n (.of 0),.slz 3 0 l.n (.of 0),.int false .i64 l.n,.int false .i64 i] ([(8,.cells 0 25 (Enc.enc p).cells),(16,.cells 0 30 (Enc.enc s).cells),(160,.rowz true 3 [.int .i64] n g)]++Qy.blk 3 l) (Ye p s least l o k)=(
  some [least=least,(0:Nat)=(0:Nat),(0:Nat)=(0:Nat),(0:Nat)=(0:Nat),(0:Nat)=(0:Nat),(0:Nat)=(0:Nat),n=o.length,Cap.of (0:Nat)=Cap.of (0 :
  Nat),(0:Nat)=(0:Nat),l.n=l.n,Cap.of (0:Nat)=Cap.of (0:Nat),(↑l.n:Int)=(↑l.n:Int),i=k,p.length=p.length,p.slack=p.slack,p.loose=p.loose,p.damp.lo
  = p.damp.lo,p.damp.hi=p.damp.hi,s.kind=s.kind,s.at_.lo=s.at_.lo,s.at_.hi=s.at_.hi,s.wide.lo=s.wide.lo,s.wide.hi=s.wide.hi,s.deep.lo=s.deep.lo,s.deep.hi =
  s.deep.hi,o.length≤n,QD (1:Nat) o.length g fun i=>QB.enc (o.getD i (0:Int)),l.n≤l.n,QD (7:Nat) l.n (fun i=>QB.enc (l.get i)) fun i=>QB.enc (l.get
  i)]):=by kernel_rfl
def Wf (o:List Int):JSt:=⟨30,[(8,.slz 24 0 o.length (.of 0))],[KW 3 24 o 0],32⟩
theorem QNc (n:Nat) (g:Nat→Nat→Int) (o:List Int):QO 8 [.slz 24 0 n (.of 0)] [(24,.rowz true 3 [.int .i64] n g)] (Wf o)=(
  some [(0:Nat)=(0:Nat),n=o.length,Cap.of (0:Nat)=Cap.of (0:Nat),o.length≤n,QD (1:Nat) o.length g fun i=>QB.enc (o.getD i (0:Int))]):=by kernel_rfl
def QAI (p:Qg) (s:Edge) (l:Rw Edge):Prop:=p.ok=true∧s.ok=true∧XB (fun i=>(l.get i).ok) l.n=true∧l.n≤1000
theorem QNV (p:Qg) (s:Edge) (least:Int) (l:Rw Edge) (hl:QAI p s l):JK (fun k:Nat=>Ye p s least l (Ka (Kj p s least l) k) k) (fun k=>k≤l.n) (fun k=>l.n - k) (fun _ e J=>e = .exit 0∧J=Wf (Ka (Kj p s least l) l.n)) 8 QDf [] (mkE Try.prog J9) (fun _=>hnd (mkE Try.prog J9) 0) (Qf Try.f91 0):=by
 obtain ⟨h1,h2,h3,h4⟩:=hl
 refine ⟨fun k g hk=>⟨vC (QPl p s least l _ k g) ?_⟩⟩
 have hlen:=QHU (Kj p s least l) k
 refine QL (fun h => ?_) (fun h => ?_)
 ·have h:k < l.n:=by have:=of_decide_eq_true h;omega
  have hw:IntKind.i64.wrap ((k:Int) + 1)=((k + 1:Nat):Int):=(w64 (by omega) (by omega)).trans (by omega)
  refine QF (by simp;omega) (QF (by simp;omega) (QF (by simp only [okP,h1,h2,QKr h3 h];rfl) (QL (fun hb => ?_) (fun hb => ?_))))
  ·have e:Ka (Kj p s least l) (k + 1)=Ka (Kj p s least l) k++[(k:Int)]:=by simp only [Ka,Kj];rw [hb]
   refine QF (by simp;omega) ⟨k + 1,h,by show l.n - (k + 1) < l.n - k;omega,fun _ _ h=>h,rfl,rfl,_,QRb _ _ _ _ _ _ _ _ _,?_⟩
   rw [e]
   repeat' first|exact trivial|with_reducible rfl|exact Nat.le_refl _|exact QD.refl _ _ _|exact hw|refine And.intro ?_ ?_
   ·simp
   ·simp
   ·exact QSG _ _
  ·have e:Ka (Kj p s least l) (k + 1)=Ka (Kj p s least l) k:=by simp only [Ka,Kj];rw [hb]
   refine ⟨k + 1,h,by show l.n - (k + 1) < l.n - k;omega,fun _ _ h=>h,rfl,rfl,_,QRt _ _ _ _ _ _ _ _ _,?_⟩
   rw [e]
   repeat' first|exact trivial|with_reducible rfl|exact Nat.le_refl _|exact QD.refl _ _ _|exact hw|refine And.intro ?_ ?_
 ·have:k=l.n:=by have:=of_decide_eq_false h;omega
  subst this
  refine ⟨_,⟨rfl,rfl⟩,rfl,rfl,_,QNc _ _ _,?_⟩
  repeat' first|exact trivial|with_reducible rfl|exact Nat.le_refl _|exact QD.refl _ _ _|refine And.intro ?_ ?_
theorem QR8 (p:Qg) (s:Edge) (least:Int) (l:Rw Edge) (hl:QAI p s l) (G:Ctx) (hrd:G.rd=none) (hG:G.n=8):Q4 (mkE Try.prog J9) G { hnd (mkE Try.prog J9) 1 with loop:=fun _=>KC 8 [] (Ye p s least l [] (0:Nat)) [(True,.exit 0,Wf (Ka (Kj p s least l) l.n))] } (Qm Try.f91):=by
 refine JR (body:=Qf Try.f91 0) (QN vI) hrd (by kernel_rfl) ?_
 refine Je (n0:=8) (QN vI) (by omega) (fun s hs=>Qt (QN vI) 0 G _ hrd) (fun s hs=>(by decide:8≤32)) ?_ (QNV p s least l hl) (s0:=0) (Nat.zero_le _) ?_
 ·rintro s e J ⟨_,rfl⟩;exact (by decide:8≤32)
 ·rintro e J ⟨rfl,rfl⟩
  exact ⟨_,List.mem_cons_self,trivial,rfl,rfl⟩
theorem QSj (o:List Int):QO 8 [.slz 24 0 o.length (.of 0)] [(24,.rowz true 3 [.int .i64] o.length fun i=>QB.enc (o.getD i 0))] (Ks 8 (.slz 0 0 o.length (.of 0)) [KW 3 0 o 0])=(
  some [(0:Nat)=(0:Nat),o.length=o.length,Cap.of (0:Nat)=Cap.of (0:Nat),o.length≤o.length,QD (1:Nat) o.length (fun i=>QB.enc (o.getD i (0:Int))) fun i
  => QB.enc (o.getD i (0:Int))]):=by kernel_rfl
def WZ:WF (Qg×Edge×Int×(Rw Edge)×Unit):=fun|(p,(s,(least,(l,_))))=>(p.ok&&s.ok&&XB (fun i=>(l.get i).ok) l.n&&decide (l.n≤1000),.slz 0 0 (Ka (Kj p s least l) l.n).length (.of 0),[KW 3 0 (Ka (Kj p s least l) l.n) 0])
def QFa:FC:=wFC WZ
theorem QNv (p:Qg) (s:Edge) (least:Int) (l:(Rw Edge)) :KY (mkE Try.prog J9) { hnd (mkE Try.prog J9) 1 with loop:=fun _=>KC 8 [] (Ye p s least l [] (0:Nat)) [(True,.exit 0,Wf (Ka (Kj p s least l)
  l.n))] } Try.f91 (QS.vals 0 ((p,s,least,l,()):Qg×Edge×Int×(Rw Edge)×Unit)) (QS.blks 0 ((p,s,least,l,()):Qg×Edge×Int×(Rw Edge)×Unit)) 8 = .ask
  (least=least) (.ask (0=0) (.ask (0=0) (.ask (0=0) (.ask (0=0) (.ask (0=0) (.ask (0=0) (.ask (l.n=l.n) (.ask (Cap.of 0=Cap.of 0) (.ask ((↑l.n:Int)=(↑l.n:Int))
  (.ask ((0:Int)=(0:Int)) (.ask (p.length=p.length) (.ask (p.slack=p.slack) (.ask (p.loose=p.loose) (.ask (p.damp.lo=p.damp.lo) (.ask (p.damp.hi=p.damp.hi) (.ask
  (s.kind=s.kind) (.ask (s.at_.lo=s.at_.lo) (.ask (s.at_.hi=s.at_.hi) (.ask (s.wide.lo=s.wide.lo) (.ask (s.wide.hi=s.wide.hi) (.ask (s.deep.lo=s.deep.lo) (.ask (s.deep.hi
  = s.deep.hi) (.ask (0=0) (.ask (l.n≤l.n) (.ask (QD 7 l.n (fun i=>QB.enc (l.get i)) fun i=>QB.enc (l.get i)) (.asm (True) (.all (fun (g0:Nat→Value) => .leaf (.slz
  24 0 (Ka (Kj p s least l) l.n).length (Cap.of 0)) ([(24,.rowz true 3 [.int .i64] (Ka (Kj p s least l) l.n).length fun i=>QB.enc ((Ka (Kj p s least l)
  l.n).getD i (0:Int)))]))))))))))))))))))))))))))))):=by kernel_rfl
theorem QMe:Kz (mkE Try.prog J9) (Qm Try.f91) 8 WZ (fun x_=>{ hnd (mkE Try.prog J9) 1 with loop:=fun _=>KC 8 [] (Ye x_.1 x_.2.1 x_.2.2.1 x_.2.2.2.1 [] (0:Nat)) [(True,.exit 0,Wf (Ka (Kj x_.1 x_.2.1 x_.2.2.1 x_.2.2.2.1) x_.2.2.2.1.n))] }):=by
 refine ⟨?_⟩
 rintro ⟨p,⟨s,⟨least,⟨l,⟨⟩⟩⟩⟩⟩ hp G h1 h2
 exact QR8 p s least l (by simpa [WZ,QAI,and_assoc] using hp) G h1 h2
theorem QRL:K1 (mkE Try.prog J9) Try.f91 8 WZ (fun x_=>{ hnd (mkE Try.prog J9) 1 with loop:=fun _=>KC 8 [] (Ye x_.1 x_.2.1 x_.2.2.1 x_.2.2.2.1 [] (0:Nat)) [(True,.exit 0,Wf (Ka (Kj x_.1 x_.2.1 x_.2.2.1 x_.2.2.2.1) x_.2.2.2.1.n))] }):=by
 refine ⟨?_⟩
 rintro ⟨p,⟨s,⟨least,⟨l,⟨⟩⟩⟩⟩⟩ hp
 refine ⟨⟨rfl,by simp [WZ,KW,Blk.own,Blk.all],rfl⟩,⟨?_⟩⟩
 rw [QNv p s least l]
 simp only [WZ] at hp
 repeat' first|refine Qc (by with_reducible rfl) ?_|refine Qc (Nat.le_refl _) ?_|refine Qc (QD.refl _ _ _) ?_
 refine KQ fun _=>KX fun g=>⟨rfl,rfl,_,QSj _,?_⟩
 repeat' first|exact trivial|with_reducible rfl|exact Nat.le_refl _|exact QD.refl _ _ _|refine And.intro ?_ ?_
theorem QRI:QM Try.prog 91 QFa:=
 K6 (QN vI) Try.func91 (by kernel_rfl) (by kernel_rfl) (by decide) QMe QRL
def ZB:Tab:=QX J9 91 QFa
theorem QBU:QU ZB:=vI.add QRI
def VQ (p:Qg) (s:Edge) (l:Rw Edge):Bool:=p.ok&&(s.ok&&XB (fun i=>(l.get i).ok) l.n)
def V4 (p:Qg) (s:Edge) (l:Rw Edge):Int:=match VQ p s l with
 | true=>(match decide (l.n > 40) with|true=>3|false=>0)
 | false=>1
def JO (p:Qg) (s:Edge) (least:Int) (l:Rw Edge):List Int:=match VQ p s l&&decide (l.n≤40) with
 | true=>Ka (Kj p s least l) l.n
 | false=>[]
theorem QQ0 (e f:Int) (o q:List Int):QO 8 [.tup [.nils,.nils,.int true .i64 e]] [] (Ks 8 (.tup [.slz 0 0 o.length (.of 0),.slz 1 0 q.length (.of 0),.int false .i64 f]) [KW 3 0 o 0,KW 3 1 q 0])=(
  some [o.length=(0:Nat),q.length=(0:Nat),e=f,o.length=(0:Nat),q.length=(0:Nat)]):=by kernel_rfl
theorem QTQ (n m:Nat) (g h:Nat→Nat→Int) (e f:Int) (o q:List Int):QO 8 [.tup [.slz 216 0 n (.of 0),.slz 248 0 m (.of 0),.int true .i64 e]] [(216,.rowz true 3 [.int .i64] n g),(248,.rowz true 3 [.int .i64] m h)] (Ks 8 (.tup [.slz 0 0 o.length (.of 0),.slz 1 0 q.length (.of 0),.int false .i64 f]) [KW 3 0 o 0,KW 3 1 q 0])=(
  some [(0:Nat)=(0:Nat),n=o.length,Cap.of (0:Nat)=Cap.of (0:Nat),(0:Nat)=(0:Nat),m=q.length,Cap.of (0:Nat)=Cap.of (0:Nat),e=f,o.length≤n,QD
  (1:Nat) o.length g fun i=>QB.enc (o.getD i (0:Int)),q.length≤m,QD (1:Nat) q.length h fun i=>QB.enc (q.getD i (0:Int))]):=by kernel_rfl
def ZG:WF (Qg×Edge×(Rw Edge)×Unit):=fun|(p,(s,(l,_)))=>(decide (l.n≤1000),.tup [.slz 0 0 (JO p s 2 l).length (.of 0),.slz 1 0 (JO p s 1 l).length (.of 0),.int false .i64 (V4 p s l)],[KW 3 0 (JO p s 2 l) 0,KW 3 1 (JO p s 1 l) 0])
def QJS:FC:=wFC ZG
abbrev QCv:QC:=
  (.leaf (.tup [.nils,.nils,.int true .i64 (1:Int)]) ([]))
theorem QL4 (p:Qg) (s:Edge) (l:(Rw Edge)) :KY (mkE Try.prog ZB) (hnd (mkE Try.prog ZB) 0) Try.f72 (QS.vals 0 ((p,s,l,()):Qg×Edge×(Rw Edge)×Unit)) (QS.blks 0 ((p,s,l,()):Qg×Edge ×
  (Rw Edge)×Unit)) 8 = .need (true) (.br (!p.ok) QCv (.need (true) (.br (!s.ok) QCv (.need (decide (l.n≤l.n)&&true&&decide (l.n≤1000)) (.br (!XB (fun i=>(l.get i).ok)
  l.n) QCv (.br (decide ((↑l.n:Int) > (40:Int))) (.leaf (.tup [.nils,.nils,.int true .i64 (3:Int)]) ([])) (.need (true&&(true&&(true&&(decide (l.n≤l.n)&&true))) &&
  (p.ok&&s.ok&&XB (fun i=>(l.get i).ok) l.n&&decide (l.n≤1000))) (.need (true&&(true&&(true&&(decide (l.n≤l.n)&&true)))&&(p.ok&&s.ok&&XB (fun i=>(l.get
  i).ok) l.n&&decide (l.n≤1000))) (.leaf (.tup [.slz 216 0 (Ka (Kj p s (2:Int) l) l.n).length (Cap.of 0),.slz 248 0 (Ka (Kj p s (1:Int) l) l.n).length (Cap.of 0),
  .int true .i64 (0:Int)]) ([(216,.rowz true 3 [.int .i64] (Ka (Kj p s (2:Int) l) l.n).length fun i=>QB.enc ((Ka (Kj p s (2:Int) l) l.n).getD i (0:Int))),
  (248,.rowz true 3 [.int .i64] (Ka (Kj p s (1:Int) l) l.n).length fun i=>QB.enc ((Ka (Kj p s (1:Int) l) l.n).getD i (0:Int)))])))))))))):=by kernel_rfl
theorem QPD:Kz (mkE Try.prog ZB) (Qm Try.f72) 8 ZG (fun x_=>(hnd (mkE Try.prog ZB) 0)):=by
 refine ⟨?_⟩
 rintro ⟨p,⟨s,⟨l,⟨⟩⟩⟩⟩ hp G h1 h2
 exact Qt (QN QBU) 0 G _ h1
theorem QML:K1 (mkE Try.prog ZB) Try.f72 8 ZG (fun x_=>(hnd (mkE Try.prog ZB) 0)):=by
 refine ⟨?_⟩
 rintro ⟨p,⟨s,⟨l,⟨⟩⟩⟩⟩ hp
 refine ⟨⟨rfl,by simp [ZG,KW,Blk.own,Blk.all],rfl⟩,⟨?_⟩⟩
 rw [QL4 p s l]
 simp only [ZG] at hp
 have hn:l.n≤1000:=of_decide_eq_true hp
 have no:∀ e:Int,JO p s 2 l=[]→JO p s 1 l=[]→V4 p s l=e→(QC.leaf (AV.tup [AV.nils,AV.nils,AV.int true IntKind.i64 e]) []).den (Vm 8 (ZG (p,s,l,())).2.1 (ZG (p,s,l,())).2.2):=by
  intro e h1 h2 h3
  refine ⟨rfl,rfl,_,QQ0 _ _ _ _,?_⟩
  rw [h1,h2,h3]
  exact ⟨rfl,rfl,rfl,rfl,rfl,trivial⟩
 refine QF rfl (QL (fun h => ?_) (fun h=>QF rfl (QL (fun h2 => ?_) (fun h2=>QF (by simpa using hn) (QL (fun h3 => ?_) (fun h3=>QL (fun h4 => ?_) (fun h4 => ?_)))))))
 ·have e:VQ p s l=false:=by simp [VQ] at h ⊢;simp [h]
  exact no 1 (by simp [JO,e]) (by simp [JO,e]) (by simp [V4,e])
 ·have e:VQ p s l=false:=by simp [VQ] at h2 ⊢;simp [h2]
  exact no 1 (by simp [JO,e]) (by simp [JO,e]) (by simp [V4,e])
 ·have e:VQ p s l=false:=by simp [VQ] at h3 ⊢;simp [h3]
  exact no 1 (by simp [JO,e]) (by simp [JO,e]) (by simp [V4,e])
 ·have h4:l.n > 40:=by have:=of_decide_eq_true h4;omega
  have e1:decide (l.n > 40)=true:=decide_eq_true h4
  have e2:decide (l.n≤40)=false:=decide_eq_false (by omega)
  have e:VQ p s l=true:=by simp [VQ] at h h2 h3 ⊢;exact ⟨h,h2,h3⟩
  exact no 3 (by simp only [JO,e,e2];rfl) (by simp only [JO,e,e2];rfl) (by simp only [V4,e,e1])
 ·have h4:¬ l.n > 40:=by have:=of_decide_eq_false h4;omega
  have e1:decide (l.n > 40)=false:=decide_eq_false h4
  have e2:decide (l.n≤40)=true:=decide_eq_true (by omega)
  have e:VQ p s l=true:=by simp [VQ] at h h2 h3 ⊢;exact ⟨h,h2,h3⟩
  have hq:(p.ok&&s.ok&&XB (fun i=>(l.get i).ok) l.n&&decide (l.n≤1000))=true:=by simp at h h2 h3;simp [h,h2,h3,hn]
  refine QF (by simp only [hq];simp) (QF (by simp only [hq];simp) ⟨rfl,rfl,_,QTQ _ _ _ _ _ _ _ _,?_⟩)
  have k2:JO p s 2 l=Ka (Kj p s 2 l) l.n:=by simp only [JO,e,e2];rfl
  have k1:JO p s 1 l=Ka (Kj p s 1 l) l.n:=by simp only [JO,e,e2];rfl
  have k3:V4 p s l=0:=by simp only [V4,e,e1]
  rw [k1,k2,k3]
  repeat' first|exact trivial|with_reducible rfl|exact Nat.le_refl _|exact QD.refl _ _ _|refine And.intro ?_ ?_
theorem QPB:QM Try.prog 72 QJS:=
 K6 (QN QBU) Try.func72 (by kernel_rfl) (by kernel_rfl) (by decide) QPD QML
def Gs:Tab:=QX ZB 72 QJS
theorem QFS:QU Gs:=QBU.add QPB
end Go.Proofs.Ytbpffdkemeoajaa
namespace Go.Proofs.Ytbpffdkemeoajaa
open Go.SX
def com (x y:Sp):Bool:=decide (x.lo≤y.hi)&&decide (y.lo≤x.hi)
def isF (b s:Edge):Bool:=(b.kind == s.kind)&&(com b.at_ s.at_&&(com b.wide s.wide&&com b.deep s.deep))
def QJ1:Edge×Edge×Unit→Bool×AV:=fun|(b,(s,_))=>(true,.bool false (isF b s))
def QKc:FC:=Qw (Qx QJ1)
theorem QTw (b:Edge) (s:Edge):Qs (mkE Try.prog Gs) (hnd (mkE Try.prog Gs) 3) false Try.f125 (Qi.enc ((b,s,()):Edge×Edge×Unit)) [] 0 =
  QC.br (b.kind == s.kind) (QC.br (decide (b.at_.lo≤s.at_.hi)) (QC.br (decide (s.at_.lo≤b.at_.hi)) (QC.br (decide (b.wide.lo≤s.wide.hi)) (QC.br (decide (s.wide.lo ≤
  b.wide.hi)) (QC.br (decide (b.deep.lo≤s.deep.hi)) (QC.leaf (AV.bool false (decide (s.deep.lo≤b.deep.hi))) ([])) (QC.leaf (AV.bool true false) ([]))) (QC.leaf (AV.bool
  true false) ([]))) (QC.leaf (AV.bool true false) ([]))) (QC.leaf (AV.bool true false) ([]))) (QC.leaf (AV.bool true false) ([]))) (QC.leaf (AV.bool true false) ([])):=by kernel_rfl
theorem QO2:QM Try.prog 125 QKc:=by
 refine Q2 QFS 3 Try.func125 (by kernel_rfl) (by kernel_rfl) ?_
 rintro ⟨b,s,⟨⟩⟩ hp
 rw [QTw b s]
 simp only [QJ1,QC.den,AV.same,AV.sameL,and_true,true_and] at hp ⊢
 simp only [isF,com]
 generalize (b.kind == s.kind)=x1
 generalize decide (b.at_.lo≤s.at_.hi)=x2
 generalize decide (s.at_.lo≤b.at_.hi)=x3
 generalize decide (b.wide.lo≤s.wide.hi)=x4
 generalize decide (s.wide.lo≤b.wide.hi)=x5
 generalize decide (b.deep.lo≤s.deep.hi)=x6
 generalize decide (s.deep.lo≤b.deep.hi)=x7
 cases x1<;>cases x2<;>cases x3<;>cases x4<;>cases x5<;>cases x6<;>cases x7<;>simp
def VP:Tab:=QX Gs 125 QKc
theorem qu:QU VP:=QFS.add QO2
end Go.Proofs.Ytbpffdkemeoajaa
namespace Go.Proofs.Ytbpffdkemeoajaa
open Go.SX
structure QP where
 up:Edge
 right:Edge
 down:Edge
 left:Edge
def QP.ok (p:QP):Bool:=p.up.ok&&(p.right.ok&&(p.down.ok&&p.left.ok))
instance : QB QP where
  ks := [.int .i64, .int .i64, .int .i64, .int .i64, .int .i64, .int .i64, .int .i64, .int .i64, .int .i64, .int .i64, .int .i64, .int .i64, .int .i64, .int .i64, .int .i64, .int .i64, .int .i64, .int .i64, .int .i64, .int .i64, .int .i64, .int .i64, .int .i64, .int .i64, .int .i64, .int .i64, .int .i64, .int .i64]
  enc p j := match j with
    | 0 => p.up.kind
    | 1 => p.up.at_.lo
    | 2 => p.up.at_.hi
    | 3 => p.up.wide.lo
    | 4 => p.up.wide.hi
    | 5 => p.up.deep.lo
    | 6 => p.up.deep.hi
    | 7 => p.right.kind
    | 8 => p.right.at_.lo
    | 9 => p.right.at_.hi
    | 10 => p.right.wide.lo
    | 11 => p.right.wide.hi
    | 12 => p.right.deep.lo
    | 13 => p.right.deep.hi
    | 14 => p.down.kind
    | 15 => p.down.at_.lo
    | 16 => p.down.at_.hi
    | 17 => p.down.wide.lo
    | 18 => p.down.wide.hi
    | 19 => p.down.deep.lo
    | 20 => p.down.deep.hi
    | 21 => p.left.kind
    | 22 => p.left.at_.lo
    | 23 => p.left.at_.hi
    | 24 => p.left.wide.lo
    | 25 => p.left.wide.hi
    | 26 => p.left.deep.lo
    | _ => p.left.deep.hi
  dec f := ⟨⟨f 0, ⟨f 1, f 2⟩, ⟨f 3, f 4⟩, ⟨f 5, f 6⟩⟩, ⟨f 7, ⟨f 8, f 9⟩, ⟨f 10, f 11⟩, ⟨f 12, f 13⟩⟩, ⟨f 14, ⟨f 15, f 16⟩, ⟨f 17, f 18⟩, ⟨f 19, f 20⟩⟩, ⟨f 21, ⟨f 22, f 23⟩, ⟨f 24, f 25⟩, ⟨f 26, f 27⟩⟩⟩
  ok _ := rfl
instance : Enc QP where
  enc p := .agg [.int false .i64 p.up.kind, .int false .i64 p.up.at_.lo, .int false .i64 p.up.at_.hi, .int false .i64 p.up.wide.lo, .int false .i64 p.up.wide.hi, .int false .i64 p.up.deep.lo, .int false .i64 p.up.deep.hi, .int false .i64 p.right.kind, .int false .i64 p.right.at_.lo, .int false .i64 p.right.at_.hi, .int false .i64 p.right.wide.lo, .int false .i64 p.right.wide.hi, .int false .i64 p.right.deep.lo, .int false .i64 p.right.deep.hi, .int false .i64 p.down.kind, .int false .i64 p.down.at_.lo, .int false .i64 p.down.at_.hi, .int false .i64 p.down.wide.lo, .int false .i64 p.down.wide.hi, .int false .i64 p.down.deep.lo, .int false .i64 p.down.deep.hi, .int false .i64 p.left.kind, .int false .i64 p.left.at_.lo, .int false .i64 p.left.at_.hi, .int false .i64 p.left.wide.lo, .int false .i64 p.left.wide.hi, .int false .i64 p.left.deep.lo, .int false .i64 p.left.deep.hi]
  dec
    | .agg [.int _ .i64 a0, .int _ .i64 a1, .int _ .i64 a2, .int _ .i64 a3, .int _ .i64 a4, .int _ .i64 a5, .int _ .i64 a6, .int _ .i64 a7, .int _ .i64 a8, .int _ .i64 a9, .int _ .i64 a10, .int _ .i64 a11, .int _ .i64 a12, .int _ .i64 a13, .int _ .i64 a14, .int _ .i64 a15, .int _ .i64 a16, .int _ .i64 a17, .int _ .i64 a18, .int _ .i64 a19, .int _ .i64 a20, .int _ .i64 a21, .int _ .i64 a22, .int _ .i64 a23, .int _ .i64 a24, .int _ .i64 a25, .int _ .i64 a26, .int _ .i64 a27] => some ⟨⟨a0, ⟨a1, a2⟩, ⟨a3, a4⟩, ⟨a5, a6⟩⟩, ⟨a7, ⟨a8, a9⟩, ⟨a10, a11⟩, ⟨a12, a13⟩⟩, ⟨a14, ⟨a15, a16⟩, ⟨a17, a18⟩, ⟨a19, a20⟩⟩, ⟨a21, ⟨a22, a23⟩, ⟨a24, a25⟩, ⟨a26, a27⟩⟩⟩
    | _ => none
  ok v x h := by
    split at h <;> (try (cases h; done))
    simp only [Option.some.injEq] at h; subst h
    exact ⟨fun _ => rfl, rfl⟩
structure Puz where
 play:Qg
 wide:Int
 high:Int
 turn:Bool
 ps:Rw QP
instance : Qy Puz where
  val k x := .agg [.int false .i64 x.play.length, .int false .i64 x.play.slack, .int false .i64 x.play.loose, .int false .i64 x.play.damp.lo, .int false .i64 x.play.damp.hi, .int false .i64 x.wide, .int false .i64 x.high, .bool false x.turn, Qy.val k x.ps]
  blk k x := Qy.blk k x.ps
  dec v lk := match v with
    | .agg [.int _ .i64 a, .int _ .i64 b, .int _ .i64 c, .int _ .i64 d, .int _ .i64 e, .int _ .i64 f, .int _ .i64 g, .bool _ t, s] => (match (Qy.dec s lk : Option (Bool × Rw QP)) with
      | some (p, x) => some (p, ⟨⟨a, b, c, ⟨d, e⟩⟩, f, g, t, x⟩)
      | none => none)
    | _ => none
  ok v lk p x h hp := by
    split at h <;> (try (cases h; done))
    split at h <;> (try (cases h; done))
    rename_i a b c d e f g t s p' x' hd
    simp only [Option.some.injEq, Prod.mk.injEq] at h
    obtain ⟨rfl, rfl⟩ := h
    obtain ⟨h1, h2⟩ := Qy.ok _ _ _ _ hd hp
    refine ⟨fun k => ⟨?_, (h1 k).2⟩, fun r w hb => ?_⟩
    · have := (h1 k).1
      simp only [AV.all, AV.allL, Bool.true_and, Bool.and_true]; exact this
    · obtain ⟨l, hl⟩ := h2 r w hb
      refine ⟨l, fun k r' hr => ⟨?_, (hl k r' hr).2⟩⟩
      have := (hl k r' hr).1
      simp only [AV.den, AV.denL] at this ⊢
      rw [this]
def QHE:AV→Bool
 | .agg _=>true
 | _=>false
theorem QK1 {v:AV} (h:QHE v=true):∃ l,v = .agg l:=by
 cases v<;>first|(cases h;done)|exact ⟨_,rfl⟩
structure FnC (α:Type) (g ty:Nat) where
 x:α
instance {α : Type} [Enc α] (g ty : Nat) : Qy (FnC α g ty) where
  val k _ := .fn (.func g) [.ptr k 0 0]
  blk k x := [(k, .cellsR 0 ty (Enc.enc x.x).cells)]
  dec v lk := match v with
    | .fn (.func g') [.ptr id e j] => (match Nat.beq g' g && (Nat.beq e 0 && Nat.beq j 0) with
      | true => (match lk id with
        | some (.cellsR z ty' l) => (match Nat.beq ty' ty && Nat.beq z 0 with
          | true => (match (Enc.dec (.agg l) : Option α) with
            | some a => (match QHE (Enc.enc a) with | true => some (true, ⟨a⟩) | false => none)
            | none => none)
          | false => none)
        | _ => none)
      | false => none)
    | _ => none
  ok v lk p x h _ := by
    split at h <;> (try (cases h; done))
    rename_i g' id e j
    split at h <;> (try (cases h; done))
    rename_i hg
    split at h <;> (try (cases h; done))
    rename_i z ty' l hlk
    split at h <;> (try (cases h; done))
    rename_i hz
    split at h <;> (try (cases h; done))
    rename_i a ha
    split at h <;> (try (cases h; done))
    rename_i hagg
    simp only [Bool.and_eq_true] at hg hz
    have hg1 := Nat.eq_of_beq_eq_true hg.1
    have he := Nat.eq_of_beq_eq_true hg.2.1
    have hj := Nat.eq_of_beq_eq_true hg.2.2
    have ht := Nat.eq_of_beq_eq_true hz.1
    have hz0 := Nat.eq_of_beq_eq_true hz.2
    subst hg1 he hj ht hz0
    simp only [Option.some.injEq, Prod.mk.injEq] at h
    obtain ⟨_, rfl⟩ := h
    obtain ⟨k1, k2⟩ := Enc.ok _ _ ha
    obtain ⟨l', hl'⟩ := QK1 hagg
    rw [hl'] at k1 k2
    have hcl : (Enc.enc a).cells = l' := by rw [hl']; rfl
    have k3 : ∀ r, AV.denL r l' = AV.denL r l := fun r => by
      have := k1 r
      simp only [AV.den, Value.agg.injEq] at this
      exact Array.toList_inj.2 this |> fun h => by simpa using h
    refine ⟨fun k => ⟨by simp [AV.all, AV.allL], fun q hq => ?_⟩, fun r w hb => ⟨r id, fun k r' hr => ⟨?_, fun q hq => ?_⟩⟩⟩
    · simp only [List.mem_singleton] at hq; subst hq
      refine ⟨rfl, rfl, ?_⟩
      show AV.allL _ (Enc.enc a).cells = true
      rw [hcl]; exact k2
    · simp only [AV.den, AV.denL, hr]
    · simp only [List.mem_singleton] at hq; subst hq
      obtain ⟨b1, b2, b3⟩ := hb _ _ hlk
      refine ⟨by rw [hr]; exact b1, by rw [hr]; exact b2, ?_⟩
      show bk w (r' k).blk = some (.cells (AV.denL r' (Enc.enc a).cells).toArray _ _)
      rw [hr, hcl, denL_congr (p := fun _ => false) (r := r') (r' := r) (fun _ hf => by cases hf) _ k2, k3 r]
      exact b3
end Go.Proofs.Ytbpffdkemeoajaa
namespace Go.Proofs.Ytbpffdkemeoajaa
open Go.SX
abbrev JT:Type:=FnC Qg 71 25
def Kp:Edge:=⟨0,⟨0,0⟩,⟨0,0⟩,⟨0,0⟩⟩
def Kl (m:JT) (l:Rw QP) (i:Nat):Bool := !(m.x.ok&&(l.get i).ok)
theorem QGB (p:Qg) (x:QP) (L:Rw Edge) (hn:L.n=4) (h0:L.get 0=x.up) (h1:L.get 1=x.right) (h2:L.get 2=x.down) (h3:L.get 3=x.left):(V4 p Kp L != 0) = !(p.ok&&x.ok):=by
 have z:Kp.ok=true:=by decide
 have e:VQ p Kp L=(p.ok&&x.ok):=by
  simp only [VQ,z,XB,QK,hn,h0,h1,h2,h3,QP.ok,Bool.true_and]
  cases p.ok<;>cases x.up.ok<;>cases x.right.ok<;>cases x.down.ok<;>cases x.left.ok<;>rfl
 have d:decide (L.n > 40)=false:=by rw [hn];rfl
 simp only [V4,e,d]
 cases p.ok&&x.ok<;>rfl
def idp (l:Rw QP) (m:JT):List (Nat×Blk):=Qy.blk 0 l++Qy.blk 1 m
def HF (l:Rw QP) (m:JT) (k:Nat):JSt:=⟨19,[(0,.slz 0 0 l.n (.of 0)),(1,Qy.val 1 m),(7,.int false .i64 l.n),(8,.int false .i64 k)],idp l m,8⟩
abbrev Zb (k:Nat) (l:Rw QP):List AV:=
  [.int false .i64 (l.get k).up.kind,.int false .i64 (l.get k).up.at_.lo,.int false .i64 (l.get k).up.at_.hi,.int false .i64 (l.get k).up.wide.lo,.int false .i64 (l.get
  k).up.wide.hi,.int false .i64 (l.get k).up.deep.lo,.int false .i64 (l.get k).up.deep.hi]
abbrev Zi (k:Nat) (l:Rw QP):List AV:=
  [.int false .i64 (l.get k).right.kind,.int false .i64 (l.get k).right.at_.lo,.int false .i64 (l.get k).right.at_.hi,.int false .i64 (l.get k).right.wide.lo,.int false .i64
  (l.get k).right.wide.hi,.int false .i64 (l.get k).right.deep.lo,.int false .i64 (l.get k).right.deep.hi]
abbrev Z4 (k:Nat) (l:Rw QP):List AV:=
  [.int false .i64 (l.get k).down.kind,.int false .i64 (l.get k).down.at_.lo,.int false .i64 (l.get k).down.at_.hi,.int false .i64 (l.get k).down.wide.lo,.int false .i64 (l.get
  k).down.wide.hi,.int false .i64 (l.get k).down.deep.lo,.int false .i64 (l.get k).down.deep.hi]
abbrev Zu (k:Nat) (l:Rw QP):List AV:=
  [.int false .i64 (l.get k).left.kind,.int false .i64 (l.get k).left.at_.lo,.int false .i64 (l.get k).left.at_.hi,.int false .i64 (l.get k).left.wide.lo,.int false .i64 (l.get
  k).left.wide.hi,.int false .i64 (l.get k).left.deep.lo,.int false .i64 (l.get k).left.deep.hi]
theorem QOw (l:Rw QP) (m:JT) (k:Nat) (g:Nat→Value) :exec (mkE Try.prog VP) (hnd (mkE Try.prog VP) 4) (Qf Try.f90 0) (JSt.inst (HF l m k) g) (KT [] Wg) = .br (decide ((↑k:Int) < (↑l.n:Int))) (.need (decide ((0
  : Int)≤(↑k:Int)∧(↑k:Int) < (↑l.n:Int))&&decide (l.n≤l.n)) (.need (decide (k < l.n)) (.need (true&&(true&&(true&&true))&&decide (4≤1000)) (.br (V4 m.x
  (Edge.mk (0:Int) (Sp.mk (0:Int) (0:Int)) (Sp.mk (0:Int) (0:Int)) (Sp.mk (0:Int) (0:Int))) (Rw.mk 4 fun i=>Edge.mk (Qb [(Zb k l),(Zi k l),(Z4 k l),(Zu k
  l)] 0 i 0) (Sp.mk (Qb [(Zb k l),(Zi k l),(Z4 k l),(Zu k l)] 0 i 1) (Qb [(Zb k l),(Zi k l),(Z4 k l),(Zu k l)] 0 i 2)) (Sp.mk (Qb [(Zb k l),(Zi k l),
  (Z4 k l),(Zu k l)] 0 i 3) (Qb [(Zb k l),(Zi k l),(Z4 k l),(Zu k l)] 0 i 4)) (Sp.mk (Qb [(Zb k l),(Zi k l),(Z4 k l),(Zu k l)] 0 i 5) (Qb [(Zb k l),
  (Zi k l),(Z4 k l),(Zu k l)] 0 i 6))) != (0:Int)) (.leaf (.tup [.nili,.ptr 19 0 0,.int false .i64 (↑k:Int)]) ([])) (.leaf (.tup [.nilp,.ptr 19 0 0,.slz 0 0 l.n
  (Cap.of 0),.fn (Fn.func 71) [.ptr 1 0 0],.int false .i64 (↑l.n:Int),.int false .i64 (IntKind.i64.wrap ((↑k:Int) + (1:Int)))]) ([(0,.frz [.int .i64,.int .i64,.int .i64,
  .int .i64,.int .i64,.int .i64,.int .i64,.int .i64,.int .i64,.int .i64,.int .i64,.int .i64,.int .i64,.int .i64,.int .i64,.int .i64,.int .i64,.int .i64,.int .i64,.int
  .i64,.int .i64,.int .i64,.int .i64,.int .i64,.int .i64,.int .i64,.int .i64,.int .i64] l.n fun i=>QB.enc (l.get i)),(1,.cellsR 0 25 [.int false .i64 m.x.length,.int
  false .i64 m.x.slack,.int false .i64 m.x.loose,.int false .i64 m.x.damp.lo,.int false .i64 m.x.damp.hi])])))))) (.leaf (.tup [.ptr 0 0 0,.ptr 19 0 0]) ([])):=by kernel_rfl
def QEZ (l:Rw QP) (m:JT) (k:Nat) (e:Ex) (J:JSt):Prop:=(e = .ret∧(QK (Kl m l) (l.n - k) k).isSome=true∧J=⟨19,[(4,.int false .i64 (KH (QK (Kl m l) (l.n - k) k)))],[],8⟩)∨(e = .exit 0∧QK (Kl m l) (l.n - k) k=none∧J=⟨19,[],[],8⟩)
theorem QOG (l:Rw QP) (m:JT) (k:Nat) (i:Int):QO 8 [.slz 0 0 l.n (.of 0),Qy.val 1 m,.int false .i64 l.n,.int false .i64 i] (idp l m) (HF l m k)=(
  some [(0:Nat)=(0:Nat),l.n=l.n,Cap.of (0:Nat)=Cap.of (0:Nat),Fn.func (71:Nat)=Fn.func (71:Nat),(0:Nat)=(0:Nat),(0:Nat)=(0:Nat),(↑l.n:Int) =
  (↑l.n:Int),i=(↑k:Int),l.n≤l.n,QD (28:Nat) l.n (fun i=>QB.enc (l.get i)) fun i=>QB.enc (l.get i),m.x.length=m.x.length,m.x.slack=m.x.slack,m.x.loose =
  m.x.loose,m.x.damp.lo=m.x.damp.lo,m.x.damp.hi=m.x.damp.hi]):=by kernel_rfl
theorem QQB (l:Rw QP) (m:JT) (hl:l.n≤1000):JK (HF l m) (fun k=>k≤l.n) (fun k=>l.n - k) (QEZ l m) 8 Wg [] (mkE Try.prog VP) (fun _=>hnd (mkE Try.prog VP) 4) (Qf Try.f90 0):=by
 refine ⟨fun k g hk=>⟨vC (QOw l m k g) ?_⟩⟩
 refine QL (fun h => ?_) (fun h => ?_)
 ·have h:k < l.n:=by have:=of_decide_eq_true h;omega
  obtain ⟨n,hm⟩:∃ n,l.n - k=n + 1:=⟨l.n - k - 1,by omega⟩
  have hm':l.n - (k + 1)=n:=by omega
  refine QF (by simp;omega) (QF (by simp;omega) (QF rfl (QL (fun hb => ?_) (fun hb => ?_))))
  ·have hf:QK (Kl m l) (l.n - k) k=some k:=by rw [hm,QK];unfold Kl;rw [(QGB m.x (l.get k) _ rfl rfl rfl rfl rfl).symm.trans hb]
   exact ⟨_,.inl ⟨rfl,by rw [hf];rfl,rfl⟩,rfl,rfl,_,Zk _ _,by rw [hf];exact ⟨rfl,trivial⟩⟩
  ·have hf:QK (Kl m l) (l.n - k) k=QK (Kl m l) (l.n - (k + 1)) (k + 1):=by rw [hm,hm',QK];unfold Kl;rw [(QGB m.x (l.get k) _ rfl rfl rfl rfl rfl).symm.trans hb]
   refine ⟨k + 1,by omega,by show l.n - (k + 1) < l.n - k;omega,fun e J h=>by unfold QEZ at h ⊢;rw [hf];exact h,rfl,rfl,_,QOG _ _ _ _,?_⟩
   repeat' first|exact trivial|with_reducible rfl|exact Nat.le_refl _|exact QD.refl _ _ _|exact (w64 (by omega) (by omega)).trans (by omega)|refine And.intro ?_ ?_
 ·have h:l.n≤k:=by have:=of_decide_eq_false h;omega
  have hf:QK (Kl m l) (l.n - k) k=none:=by rw [show l.n - k=0 by omega];rfl
  exact ⟨_,.inr ⟨rfl,hf,rfl⟩,rfl,rfl,_,QAw,trivial⟩
def QQm (l:Rw QP) (m:JT):List (Prop×Ex×JSt):=[((QK (Kl m l) l.n 0).isSome=true,.ret,⟨19,[(4,.int false .i64 (KH (QK (Kl m l) l.n 0)))],[],8⟩),(QK (Kl m l) l.n 0=none,.exit 0,⟨19,[],[],8⟩)]
abbrev vn (l:Rw QP) (m:JT):Code→St→(Ex→St→QC)→QC:=fun _=>KC 8 [] (HF l m 0) (QQm l m)
theorem QSf (l:Rw QP) (m:JT) (hl:l.n≤1000) (G:Ctx) (hrd:G.rd=none) (hG:G.n=8):Q4 (mkE Try.prog VP) G { hnd (mkE Try.prog VP) 1 with loop:=vn l m } (Qm Try.f90):=by
 refine JR (body:=Qf Try.f90 0) (QN qu) hrd (by kernel_rfl) ?_
 refine Je (n0:=8) (QN qu) (by omega) (fun s hs=>Qt (QN qu) 4 G _ hrd) (fun s hs=>Nat.le_refl _) ?_ (QQB l m hl) (s0:=0) (Nat.zero_le _) ?_
 ·rintro s e J (⟨_,_,rfl⟩|⟨_,_,rfl⟩)<;>exact Nat.le_refl _
 ·rintro e J (⟨rfl,h,rfl⟩|⟨rfl,h,rfl⟩)
  ·exact ⟨_,List.mem_cons_self,h,rfl,rfl⟩
  ·exact ⟨_,List.mem_cons_of_mem _ List.mem_cons_self,h,rfl,rfl⟩
def qv:WF ((Rw QP)×JT×Unit):=fun|(l,(m,_))=>(decide (l.n≤1000),.int false .i64 (KH (QK (Kl m l) l.n 0)),[])
def QFp:FC:=wFC qv
theorem QPi (l:(Rw QP)) (m:JT):KY (mkE Try.prog VP) { hnd (mkE Try.prog VP) 1 with loop:=vn l m } Try.f90 (QS.vals 0 ((l,m,()):(Rw QP)×JT×Unit)) (QS.blks 0 ((l,m,()):(Rw QP)×JT×Unit)) 8 =
  QC.ask ((0:Nat)=(0:Nat)) (QC.ask (l.n=l.n) (QC.ask (Cap.of (0:Nat)=Cap.of (0:Nat)) (QC.ask (Fn.func (71:Nat)=Fn.func (71:Nat)) (QC.ask ((0:Nat)=(0
  : Nat)) (QC.ask ((0:Nat)=(0:Nat)) (QC.ask ((↑l.n:Int)=(↑l.n:Int)) (QC.ask ((0:Int)=(0:Int)) (QC.ask (l.n≤l.n) (QC.ask (QD (28:Nat) l.n (fun i=>
  QB.enc (l.get i)) fun i=>QB.enc (l.get i)) (QC.ask (m.x.length=m.x.length) (QC.ask (m.x.slack=m.x.slack) (QC.ask (m.x.loose=m.x.loose) (QC.ask (m.x.damp.lo =
  m.x.damp.lo) (QC.ask (m.x.damp.hi=m.x.damp.hi) (QC.both (QC.asm ((QK (Kl m l) l.n (0:Nat)).isSome=true) (QC.all (fun (g0:Nat→Value)=>QC.leaf (AV.int
  false IntKind.i64 (KH (QK (Kl m l) l.n (0:Nat)))) ([])))) (QC.asm (QK (Kl m l) l.n (0:Nat)=none) (QC.all (fun (g1:Nat→Value)=>QC.leaf (AV.int true
  IntKind.i64 (-1:Int)) ([]))))))))))))))))))):=by kernel_rfl
theorem QTi:Kz (mkE Try.prog VP) (Qm Try.f90) 8 qv (fun x_=>{ hnd (mkE Try.prog VP) 1 with loop:=vn x_.1 x_.2.1 }):=by
 refine ⟨?_⟩
 rintro ⟨l,⟨m,⟨⟩⟩⟩ hp G h1 h2
 exact QSf l m (of_decide_eq_true hp) G h1 h2
theorem QL2:K1 (mkE Try.prog VP) Try.f90 8 qv (fun x_=>{ hnd (mkE Try.prog VP) 1 with loop:=vn x_.1 x_.2.1 }):=by
 refine ⟨?_⟩
 rintro ⟨l,⟨m,⟨⟩⟩⟩ hp
 refine ⟨⟨rfl,by simp [qv],rfl⟩,⟨?_⟩⟩
 rw [QPi l m]
 simp only [qv] at hp
 repeat' first|refine Qc (by with_reducible rfl) ?_|refine Qc (Nat.le_refl _) ?_|refine Qc (QD.refl _ _ _) ?_|refine Qc (show _=_ from rfl) ?_
 refine Xc (KQ fun h=>KX fun g => ?_) (KQ fun h=>KX fun g => ?_)
 ·exact Ki ⟨rfl,rfl⟩ rfl
 ·exact Ki ⟨rfl,by show (-1:Int)=KH (QK (Kl m l) l.n 0);rw [h];rfl⟩ rfl
theorem QOC:QM Try.prog 90 QFp:=
 K6 (QN qu) Try.func90 (by kernel_rfl) (by kernel_rfl) (by decide) QTi QL2
def Yf:Tab:=QX VP 90 QFp
theorem QC1:QU Yf:=qu.add QOC
def jS:WF ((Rw QP)×JT×Unit):=fun|(l,(m,_))=>(decide (l.n≤1000),.bool false (decide (KH (QK (Kl m l) l.n 0)≥0)),[])
def QED:FC:=wFC jS
theorem QPa (l:(Rw QP)) (m:JT):KY (mkE Try.prog Yf) (hnd (mkE Try.prog Yf) 0) Try.f70 (QS.vals 0 ((l,m,()):(Rw QP)×JT×Unit)) (QS.blks 0 ((l,m,()):(Rw QP)×JT×Unit)) 8 =
  QC.need (decide (l.n≤l.n)&&(true&&true)&&decide (l.n≤(1000:Nat))) (QC.leaf (AV.bool false (decide (KH (QK (Kl m l) l.n (0:Nat))≥(0:Int)))) ([])):=by kernel_rfl
theorem QP5:Kz (mkE Try.prog Yf) (Qm Try.f70) 8 jS (fun x_=>(hnd (mkE Try.prog Yf) 0)):=by
 refine ⟨?_⟩
 rintro ⟨l,⟨m,⟨⟩⟩⟩ hp G h1 h2
 exact Qt (QN QC1) 0 G _ h1
theorem QPU:K1 (mkE Try.prog Yf) Try.f70 8 jS (fun x_=>(hnd (mkE Try.prog Yf) 0)):=by
 refine ⟨?_⟩
 rintro ⟨l,⟨m,⟨⟩⟩⟩ hp
 refine ⟨⟨rfl,by simp [jS],rfl⟩,⟨?_⟩⟩
 rw [QPa l m]
 simp only [jS] at hp
 exact QF (by simpa using hp) (Ki rfl rfl)
theorem QQh:QM Try.prog 70 QED:=
 K6 (QN QC1) Try.func70 (by kernel_rfl) (by kernel_rfl) (by decide) QP5 QPU
def vf:Tab:=QX Yf 70 QED
theorem QHG:QU vf:=QC1.add QQh
end Go.Proofs.Ytbpffdkemeoajaa
namespace Go.Proofs.Ytbpffdkemeoajaa
open Go.SX
def Jg (p:Qg) (l:Rw QP):Bool:=(QK (Kl ⟨p⟩ l) l.n 0).isNone
def QEp:Int×Int×Int×Unit→Bool×AV:=fun|(n,(a,(b,_)))=>(true,.bool false (QW n a b))
def QIc:FC:=Qw (Qx QEp)
theorem QK6 (n:Int) (a:Int) (b:Int):Qs (mkE Try.prog vf) (hnd (mkE Try.prog vf) 2) false Try.f66 (Qi.enc ((n,a,b,()):Int×Int×Int×Unit)) [] 0 =
  QC.br (decide (a≤n)) (QC.leaf (AV.bool false (decide (n≤b))) ([])) (QC.leaf (AV.bool true false) ([])):=by kernel_rfl
theorem QOB:QM Try.prog 66 QIc:=by
 refine Q2 QHG 2 Try.func66 (by kernel_rfl) (by kernel_rfl) ?_
 rintro ⟨n,a,b,⟨⟩⟩ hp
 rw [QK6 n a b]
 simp only [QEp,QC.den,AV.same,AV.sameL,and_true,true_and] at hp ⊢
 (repeat' (first|(refine And.intro ?_ ?_)|(intro _)))<;>simp_all [QW]<;>omega
def Y5:Tab:=QX vf 66 QIc
theorem QCS:QU Y5:=QHG.add QOB
def jQ:WF (Qg×(Rw QP)×Unit):=fun|(p,(l,_))=>(decide (l.n≤1000),.bool false (Jg p l),[])
def QG5:FC:=wFC jQ
theorem QL7 (p:Qg) (l:(Rw QP)):KY (mkE Try.prog Y5) (hnd (mkE Try.prog Y5) 0) Try.f42 (QS.vals 0 ((p,l,()):Qg×(Rw QP)×Unit)) (QS.blks 0 ((p,l,()):Qg×(Rw QP)×Unit)) 8 =
  QC.need (decide (l.n≤l.n)&&(true&&true)&&decide (l.n≤(1000:Nat))) (QC.leaf (AV.bool false !decide (KH (QK (Kl (FnC.mk p) l) l.n (0:Nat))≥(0:Int)))
  ([])):=by kernel_rfl
theorem QNd:Kz (mkE Try.prog Y5) (Qm Try.f42) 8 jQ (fun x_=>(hnd (mkE Try.prog Y5) 0)):=by
 refine ⟨?_⟩
 rintro ⟨p,⟨l,⟨⟩⟩⟩ hp G h1 h2
 exact Qt (QN QCS) 0 G _ h1
theorem QPI:K1 (mkE Try.prog Y5) Try.f42 8 jQ (fun x_=>(hnd (mkE Try.prog Y5) 0)):=by
 refine ⟨?_⟩
 rintro ⟨p,⟨l,⟨⟩⟩⟩ hp
 refine ⟨⟨rfl,by simp [jQ],rfl⟩,⟨?_⟩⟩
 rw [QL7 p l]
 simp only [jQ] at hp
 exact QF (by simpa using hp) (Ki (QBF _) rfl)
theorem QOs:QM Try.prog 42 QG5:=
 K6 (QN QCS) Try.func42 (by kernel_rfl) (by kernel_rfl) (by decide) QNd QPI
def Y3:Tab:=QX Y5 42 QG5
theorem QBY:QU Y3:=QCS.add QOs
def Puz.okN (d:Puz):Bool:=QW (d.ps.n:Int) 1 9&&(QW d.wide 1 d.ps.n&&(QW d.high 1 d.ps.n&&IntKind.i64.wrap (d.wide * d.high) == (d.ps.n:Int)))
def Puz.ok (d:Puz):Bool:=d.okN&&Jg d.play d.ps
def ZY:WF (Puz×Unit):=fun|(d,_)=>(decide (d.ps.n≤1000),.bool false d.ok,[])
def QEn:FC:=wFC ZY
theorem QP9 (d:Puz):KY (mkE Try.prog Y3) (hnd (mkE Try.prog Y3) 0) Try.f37 (QS.vals 0 ((d,()):Puz×Unit)) (QS.blks 0 ((d,()):Puz×Unit)) 8 =
  QC.need (true) (QC.br (QW (↑d.ps.n:Int) (1:Int) (9:Int)) (QC.need (true) (QC.br (QW d.wide (1:Int) (↑d.ps.n:Int)) (QC.need (true) (QC.br (QW d.high
  (1:Int) (↑d.ps.n:Int)) (QC.br (IntKind.i64.wrap (d.wide * d.high) == (↑d.ps.n:Int)) (QC.need (true&&(decide (d.ps.n≤d.ps.n)&&true)&&decide (d.ps.n≤(1000:Nat)))
  (QC.leaf (AV.bool false (Jg d.play d.ps)) ([]))) (QC.leaf (AV.bool true false) ([]))) (QC.leaf (AV.bool true false) ([])))) (QC.leaf (AV.bool true false) ([]))))
  (QC.leaf (AV.bool true false) ([]))):=by kernel_rfl
theorem QRO:Kz (mkE Try.prog Y3) (Qm Try.f37) 8 ZY (fun x_=>(hnd (mkE Try.prog Y3) 0)):=by
 refine ⟨?_⟩
 rintro ⟨d,⟨⟩⟩ hp G h1 h2
 exact Qt (QN QBY) 0 G _ h1
theorem QSs:K1 (mkE Try.prog Y3) Try.f37 8 ZY (fun x_=>(hnd (mkE Try.prog Y3) 0)):=by
 refine ⟨?_⟩
 rintro ⟨d,⟨⟩⟩ hp
 refine ⟨⟨rfl,by simp [ZY],rfl⟩,⟨?_⟩⟩
 rw [QP9 d]
 simp only [ZY] at hp
 have no:d.okN=false→(QC.leaf (AV.bool true false) []).den (Vm 8 (ZY (d,())).2.1 (ZY (d,())).2.2):=fun h=>Ki (show false=d.ok by rw [Puz.ok,h];rfl) rfl
 refine QF rfl (QL (fun h1=>QF rfl (QL (fun h2=>QF rfl (QL (fun h3=>QL (fun h4=>QF (by simpa using hp) (Ki (show Jg d.play d.ps=d.ok by rw [Puz.ok,Puz.okN,h1,h2,h3,h4];rfl) rfl)) (fun h4=>no (by rw [Puz.okN,h1,h2,h3,h4];rfl))) (fun h3=>no (by rw [Puz.okN,h1,h2,h3];rfl)))) (fun h2=>no (by rw [Puz.okN,h1,h2];rfl)))) (fun h1=>no (by rw [Puz.okN,h1];rfl)))
theorem QRF:QM Try.prog 37 QEn:=
 K6 (QN QBY) Try.func37 (by kernel_rfl) (by kernel_rfl) (by decide) QRO QSs
def GF:Tab:=QX Y3 37 QEn
theorem QJD:QU GF:=QBY.add QRF
end Go.Proofs.Ytbpffdkemeoajaa
namespace Go.Proofs.Ytbpffdkemeoajaa
open Go.SX
def GD (s:Int):Int:=(s + 2).tmod 4
def QEj:Int×Unit→Bool×AV:=fun|(s,_)=>(decide (0≤s∧s≤3),.int false .i64 (GD s))
def QI0:FC:=Qw (Qx QEj)
theorem QSP (s:Int):Qs (mkE Try.prog GF) (hnd (mkE Try.prog GF) 2) false Try.f39 (Qi.enc ((s,()):Int×Unit)) [] 0 =
  QC.leaf (AV.int false IntKind.i64 ((IntKind.i64.wrap (s + (2:Int))).tmod (4:Int))) ([]):=by kernel_rfl
theorem QMg:QM Try.prog 39 QI0:=by
 refine Q2 QJD 2 Try.func39 (by kernel_rfl) (by kernel_rfl) ?_
 rintro ⟨s,⟨⟩⟩ hp
 rw [QSP s]
 simp only [QEj,QC.den,AV.same,AV.sameL,and_true,true_and] at hp ⊢
 have hp:=of_decide_eq_true hp
 show (IntKind.i64.wrap (s + 2)).tmod 4=GD s
 rw [w64 (by omega) (by omega)];rfl
def Yz:Tab:=QX GF 39 QI0
theorem QCH:QU Yz:=QJD.add QMg
def QR (wide high cell side:Int):Int:=
 cond (side == 0&&decide (0 < cell.tdiv wide)) (cell - wide) (cond (side == 1&&decide (cell.tmod wide < wide - 1)) (cell + 1)
  (cond (side == 2&&decide (cell.tdiv wide < high - 1)) (cell + wide) (cond (side == 3&&decide (0 < cell.tmod wide)) (cell - 1) (-1))))
def Zy:WF (Puz×Int×Int×Unit):=fun|(d,(c,(s,_)))=>(decide ((1≤d.wide∧d.wide≤100)∧(1≤d.high∧d.high≤100)∧(0≤c∧c≤100)),.int false .i64 (QR d.wide d.high c s),[])
def QH3:FC:=wFC Zy
theorem QMt (d:Puz) (c:Int) (s:Int) :KY (mkE Try.prog Yz) (hnd (mkE Try.prog Yz) 0) Try.f38 (QS.vals 0 ((d,c,s,()):Puz×Int×Int×Unit)) (QS.blks 0 ((d,c,s,()):Puz×Int×Int ×
  Unit)) 8 = .need (!decide (d.wide=(0:Int))) (.need (!decide (d.wide=(0:Int))) (.br (s == (0:Int)) (.br (decide (IntKind.i64.wrap (c.tdiv d.wide) > (0:Int))) (.leaf (.int
  false .i64 (IntKind.i64.wrap (c - d.wide))) ([])) (.br (s == (1:Int)) (.br (decide (c.tmod d.wide < IntKind.i64.wrap (d.wide - (1:Int)))) (.leaf (.int false .i64
  (IntKind.i64.wrap (c + (1:Int)))) ([])) (.br (s == (2:Int)) (.br (decide (IntKind.i64.wrap (c.tdiv d.wide) < IntKind.i64.wrap (d.high - (1:Int)))) (.leaf (.int false .i64
  (IntKind.i64.wrap (c + d.wide))) ([])) (.br (s == (3:Int)) (.br (decide (c.tmod d.wide > (0:Int))) (.leaf (.int false .i64 (IntKind.i64.wrap (c - (1:Int)))) ([])) (.leaf (.int
  true .i64 (-1:Int)) ([]))) (.leaf (.int true .i64 (-1:Int)) ([])))) (.br (s == (3:Int)) (.br (decide (c.tmod d.wide > (0:Int))) (.leaf (.int false .i64 (IntKind.i64.wrap (c
  - (1:Int)))) ([])) (.leaf (.int true .i64 (-1:Int)) ([]))) (.leaf (.int true .i64 (-1:Int)) ([]))))) (.br (s == (2:Int)) (.br (decide (IntKind.i64.wrap (c.tdiv d.wide) <
  IntKind.i64.wrap (d.high - (1:Int)))) (.leaf (.int false .i64 (IntKind.i64.wrap (c + d.wide))) ([])) (.br (s == (3:Int)) (.br (decide (c.tmod d.wide > (0:Int))) (.leaf (.int
  false .i64 (IntKind.i64.wrap (c - (1:Int)))) ([])) (.leaf (.int true .i64 (-1:Int)) ([]))) (.leaf (.int true .i64 (-1:Int)) ([])))) (.br (s == (3:Int)) (.br (decide (c.tmod
  d.wide > (0:Int))) (.leaf (.int false .i64 (IntKind.i64.wrap (c - (1:Int)))) ([])) (.leaf (.int true .i64 (-1:Int)) ([]))) (.leaf (.int true .i64 (-1:Int)) ([])))))) (.br (s
  == (1:Int)) (.br (decide (c.tmod d.wide < IntKind.i64.wrap (d.wide - (1:Int)))) (.leaf (.int false .i64 (IntKind.i64.wrap (c + (1:Int)))) ([])) (.br (s == (2:Int)) (.br
  (decide (IntKind.i64.wrap (c.tdiv d.wide) < IntKind.i64.wrap (d.high - (1:Int)))) (.leaf (.int false .i64 (IntKind.i64.wrap (c + d.wide))) ([])) (.br (s == (3:Int)) (.br (decide
  (c.tmod d.wide > (0:Int))) (.leaf (.int false .i64 (IntKind.i64.wrap (c - (1:Int)))) ([])) (.leaf (.int true .i64 (-1:Int)) ([]))) (.leaf (.int true .i64 (-1:Int)) ([]))))
  (.br (s == (3:Int)) (.br (decide (c.tmod d.wide > (0:Int))) (.leaf (.int false .i64 (IntKind.i64.wrap (c - (1:Int)))) ([])) (.leaf (.int true .i64 (-1:Int)) ([]))) (.leaf
  (.int true .i64 (-1:Int)) ([]))))) (.br (s == (2:Int)) (.br (decide (IntKind.i64.wrap (c.tdiv d.wide) < IntKind.i64.wrap (d.high - (1:Int)))) (.leaf (.int false .i64
  (IntKind.i64.wrap (c + d.wide))) ([])) (.br (s == (3:Int)) (.br (decide (c.tmod d.wide > (0:Int))) (.leaf (.int false .i64 (IntKind.i64.wrap (c - (1:Int)))) ([])) (.leaf (.int
  true .i64 (-1:Int)) ([]))) (.leaf (.int true .i64 (-1:Int)) ([])))) (.br (s == (3:Int)) (.br (decide (c.tmod d.wide > (0:Int))) (.leaf (.int false .i64 (IntKind.i64.wrap (c
  - (1:Int)))) ([])) (.leaf (.int true .i64 (-1:Int)) ([]))) (.leaf (.int true .i64 (-1:Int)) ([]))))))):=by kernel_rfl
theorem QK2:Kz (mkE Try.prog Yz) (Qm Try.f38) 8 Zy (fun x_=>(hnd (mkE Try.prog Yz) 0)):=by
 refine ⟨?_⟩
 rintro ⟨d,⟨c,⟨s,⟨⟩⟩⟩⟩ hp G h1 h2
 exact Qt (QN QCH) 0 G _ h1
theorem QTc:K1 (mkE Try.prog Yz) Try.f38 8 Zy (fun x_=>(hnd (mkE Try.prog Yz) 0)):=by
 refine ⟨?_⟩
 rintro ⟨d,⟨c,⟨s,⟨⟩⟩⟩⟩ hp
 refine ⟨⟨rfl,by simp [Zy],rfl⟩,⟨?_⟩⟩
 rw [QMt d c s]
 simp only [Zy] at hp
 obtain ⟨⟨w1,w2⟩,⟨h1,h2⟩,c1,c2⟩:=of_decide_eq_true hp
 have q0:0≤c.tdiv d.wide:=Int.tdiv_nonneg c1 (by omega)
 have q1:c.tdiv d.wide≤c:=by rw [Int.tdiv_eq_ediv_of_nonneg c1];exact Int.ediv_le_self _ c1
 have m0:0≤c.tmod d.wide:=Int.tmod_nonneg _ c1
 have m1:c.tmod d.wide < d.wide:=Int.tmod_lt_of_pos _ (by omega)
 have e1:IntKind.i64.wrap (c.tdiv d.wide)=c.tdiv d.wide:=w64 (by omega) (by omega)
 have e2:IntKind.i64.wrap (c - d.wide)=c - d.wide:=w64 (by omega) (by omega)
 have e3:IntKind.i64.wrap (d.wide - 1)=d.wide - 1:=w64 (by omega) (by omega)
 have e4:IntKind.i64.wrap (c + 1)=c + 1:=w64 (by omega) (by omega)
 have e5:IntKind.i64.wrap (d.high - 1)=d.high - 1:=w64 (by omega) (by omega)
 have e6:IntKind.i64.wrap (c + d.wide)=c + d.wide:=w64 (by omega) (by omega)
 have e7:IntKind.i64.wrap (c - 1)=c - 1:=w64 (by omega) (by omega)
 have dz:(!decide (d.wide=0))=true:=by simp;omega
 rw [e1,e2,e3,e4,e5,e6,e7]
 refine QF dz (QF dz ?_)
 have fin:∀ v:AV,v.same (.int false .i64 (QR d.wide d.high c s))→(QC.leaf v []).den (Vm 8 (Zy (d,c,s,())).2.1 (Zy (d,c,s,())).2.2):=fun v h=>Ki h rfl
 repeat' refine QL (fun _ => ?_) (fun _ => ?_)
 all_goals refine fin _ ?_
 all_goals simp only [AV.same,QR,true_and]
 all_goals grind
theorem QPb:QM Try.prog 38 QH3:=
 K6 (QN QCH) Try.func38 (by kernel_rfl) (by kernel_rfl) (by decide) QK2 QTc
def XI:Tab:=QX Yz 38 QH3
theorem vX:QU XI:=QCH.add QPb
end Go.Proofs.Ytbpffdkemeoajaa
