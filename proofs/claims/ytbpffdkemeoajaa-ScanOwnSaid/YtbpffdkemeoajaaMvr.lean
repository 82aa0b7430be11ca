/- - -/
import Derived.Test.YtbpffdkemeoajaaMvo
import Derived.Test.YtbpffdkemeoajaaMvq
open Go.IntKind (i64)
set_option maxRecDepth 100000
namespace Go.Proofs.Ytbpffdkemeoajaa
open Go.SX
def Qa(fn:Func)(k:Nat):Code:=match (Kg (Qr fn))[k]? with
 | some (.loop b)=>b
 | _ => .skip
instance : QA Edge where
  ks := [.int .i64,.int .i64,.int .i64,.int .i64,.int .i64,.int .i64,.int .i64]
  enc e j := match j with
    | 0 => e.kind
    | 1 => e.at_.lo
    | 2 => e.at_.hi
    | 3 => e.wide.lo
    | 4 => e.wide.hi
    | 5 => e.deep.lo
    | _ => e.deep.hi
  dec f := ⟨f 0,⟨f 1,f 2⟩,⟨f 3,f 4⟩,⟨f 5,f 6⟩⟩
  ok _ := rfl
structure FnK (g:Nat) where
 u:Unit
instance (g : Nat) : Enc (FnK g) where
  enc _ := .fn (.func g) []
  dec v := match v with
    | .fn (.func g') [] => (match Nat.beq g' g with | true => some ⟨()⟩ | false => none)
    | _ => none
  ok v x h := by
    split at h <;> (try (cases h; done))
    split at h <;> (try (cases h; done))
    rename_i hg;have := Nat.eq_of_beq_eq_true hg;subst this;exact⟨fun _ => rfl,rfl⟩
def QP(p:Nat→Bool):Nat→Nat→Option Nat
 | 0,_=>none
 | m+1,k=>match p k with
  | true=>some k
  | false=>QP p m (k+1)
def KP:Option Nat→Int
 | some i=>i
 | none => -1
def Xt(p:Nat→Bool)(n:Nat):Bool:=(QP (fun i => !p i) n 0).isNone
theorem jb{p:Nat→Bool}:∀{m k:Nat},QP p m k=none→∀ i,k≤i→i<k+m→p i=false
 | 0,k,_,i,h1,h2=>by omega
 | m+1,k,h,i,h1,h2=>by
  simp only[QP]at h;split at h
  ·cases h
  ·rename_i hk;rcases Nat.eq_or_lt_of_le h1 with rfl|hlt
   ·exact hk
   ·exact jb h i hlt (by omega)
theorem QST{p:Nat→Bool}{n:Nat}(h:Xt p n=true){i:Nat}(hi:i<n):p i=true:=by
 unfold Xt at h;rw[Option.isNone_iff_eq_none]at h;have:=jb h i (Nat.zero_le _) (by omega)
 simpa using this
theorem Ht{p:Nat→Bool}:∀{m k:Nat},(∀ i,k≤i→i<k+m→p i=false)→QP p m k=none
 | 0,_,_=>rfl
 | m+1,k,h=>by
  simp only[QP];rw[h k (qlr _) (by omega)]
  exact Ht fun i h1 h2=>h i (by omega) (by omega)
def QHR:Edge×Unit→Bool×AV:=fun|(s,_)=>(true,.bool false (!s.ok))
def QGH:FC:=Q5 (Q6 QHR)
variable (p:Qk)(s:Edge)(k:Nat)(l:Rw Edge)(least:Int)(o:List Int)
theorem QNg:Q2 (mkE Try.prog HX) (hnd (mkE Try.prog HX) 0) false Try.f84 (Qm.enc ((s,()):Edge×Unit)) [] 0 =
  QC.need (true) (QC.leaf (AV.bool false !s.ok) ([])):=by kernel_rfl
theorem QSd:QQ Try.prog 84 QGH:=by
 refine KC QJY 0 Try.func84 (by kernel_rfl) (by kernel_rfl) ?_
 rintro⟨s,⟨⟩⟩ hp;rw[QNg s];simp only[QHR,QC.den,AV.same,AV.sameL,and_true,true_and]at hp ⊢
def X5:Tab:=Qb HX 84 QGH
theorem vV:QV X5:=QJY.add QSd
def Ja(i:Nat):Bool := !(l.get i).ok
def Hf(k:Nat):JSt:=⟨19,[(0,.slz 0 0 l.n (.of 0)),(1,.fn (.func 84) []),(7,.int false .i64 l.n),(8,.int false .i64 k)],Qz.blk 0 l,8⟩
def W6:Ex→List Nat
 | .normal=>[0,1,7,8]
 | .exit _=>[]
 | .ret=>[4]
theorem QSA(k:Nat)(g:Nat→Value):exec (mkE Try.prog X5) (hnd (mkE Try.prog X5) 0) (Qa Try.f96 0) (JSt.inst (Hf l k) g) (KL [] W6) =
  QC.br (decide ((↑k:Int)<(↑l.n:Int))) (QC.need (decide ((0:Int)≤(↑k:Int)∧(↑k:Int)<(↑l.n:Int))&&decide (l.n≤l.n)) (QC.need (decide (k<l.n)) (QC.need
  (true) (QC.br (!(l.get k).ok) (QC.leaf (AV.tup [AV.nili,AV.ptr (19:Nat) (0:Nat) (0:Nat),AV.int false i64 (↑k:Int)]) ([])) (QC.leaf (AV.tup [AV.nilp,AV.ptr
  (19:Nat) (0:Nat) (0:Nat),AV.slz (0:Nat) (0:Nat) l.n (Cap.of (0:Nat)),AV.fn (Fn.func (84:Nat)) [],AV.int false i64 (↑l.n:Int),AV.int false i64
  (i64.wrap ((↑k:Int)+(1:Int)))]) ([((0:Nat),Blk.frz [CK.int i64,CK.int i64,CK.int i64,CK.int i64,CK.int i64,CK.int
  i64,CK.int i64] l.n fun i=>QA.enc (l.get i))])))))) (QC.leaf (AV.tup [AV.ptr (0:Nat) (0:Nat) (0:Nat),AV.ptr (19:Nat) (0:Nat) (0:Nat)]) ([])):=by kernel_rfl
def QFF(k:Nat)(e:Ex)(J:JSt):Prop:=(e = .ret∧(QP (Ja l) (l.n-k) k).isSome=true∧J=⟨19,[(4,.int false .i64 (KP (QP (Ja l) (l.n-k) k)))],[],8⟩)∨(e = .exit 0∧QP (Ja l) (l.n-k) k=none∧J=⟨19,[],[],8⟩)
theorem QOG(k:Nat)(i:Int):QK 8 [.slz 0 0 l.n cO,.fn (.func 84) [],vi l.n,vi i] (Qz.blk 0 l) (Hf l k)=(
  some [(0:Nat)=(0:Nat),l.n=l.n,Cap.of (0:Nat)=Cap.of (0:Nat),Fn.func (84:FuncId)=Fn.func (84:FuncId),(↑l.n:Int)=(↑l.n:Int),i=(↑k:Int),l.n≤l.n,
  QD (7:Nat) l.n (fun i=>QA.enc (l.get i)) fun i=>QA.enc (l.get i)]):=by kernel_rfl
theorem Wy(i j:Int):QK 8 [vi i] [] ⟨19,[(4,vi j)],[],8⟩=(
  some [i=j]):=by kernel_rfl
theorem QCt :QK 8 [] [] ⟨19,[],[],8⟩=(
  some []):=by kernel_rfl
theorem QUY(hl:l.n≤1000):JW (Hf l) (fun k=>k≤l.n) (fun k=>l.n-k) (QFF l) 8 W6 [] (mkE Try.prog X5) (fun _=>hnd (mkE Try.prog X5) 0) (Qa Try.f96 0):=by
 refine⟨fun k g hk=>⟨za (QSA l k g) ?_⟩⟩;refine QI (fun h => ?_) (fun h => ?_)
 ·have h:k<l.n:=by have:=qdt h;omega
  obtain⟨m,hm⟩:∃ m,l.n-k=m+1:=⟨l.n-k-1,by omega⟩
  have hm':l.n-(k+1)=m:=by omega
  refine QF (by simp;omega) (QF (by simp;omega) (QF rfl (QI (fun hb => ?_) (fun hb => ?_))))
  ·have hf:QP (Ja l) (l.n-k) k=some k:=by rw[hm,QP];unfold Ja;rw[hb]
   exact⟨_,.inl ⟨rfl,by rw[hf];rfl,rfl⟩,rfl,rfl,_,Wy _ _,by rw[hf];exact⟨rfl,trivial⟩⟩
  ·have hf:QP (Ja l) (l.n-k) k=QP (Ja l) (l.n-(k+1)) (k+1):=by rw[hm,hm',QP];unfold Ja;rw[hb]
   refine⟨k+1,by omega,by show l.n-(k+1)<l.n-k;omega,fun e J h=>by unfold QFF at h ⊢;rw[hf];exact h,rfl,rfl,_,QOG _ _ _,?_⟩
   exact⟨rfl,rfl,rfl,rfl,rfl,(w64 (by omega) (by omega)).trans (by omega),qlr _,qRr,trivial⟩
 ·have h:l.n≤k:=by have:=of_decide_eq_false h;omega
  have hf:QP (Ja l) (l.n-k) k=none:=by rw[show l.n-k=0 by omega];rfl
  exact⟨_,.inr ⟨rfl,hf,rfl⟩,rfl,rfl,_,QCt,trivial⟩
def QQy:List (Prop×Ex×JSt):=[((QP (Ja l) l.n 0).isSome=true,.ret,⟨19,[(4,.int false .i64 (KP (QP (Ja l) l.n 0)))],[],8⟩),(QP (Ja l) l.n 0=none,.exit 0,⟨19,[],[],8⟩)]
abbrev Hw(P:Program)(l:Rw Edge):Hnd:={ hnd (mkE P X5) 1 with loop:=fun _=>KF 8 [] (Hf l 0) (QQy l) }
theorem QUQ(hl:l.n≤1000)(G:Ctx)(hrd:G.rd=none)(hG:G.n=8):KH (mkE Try.prog X5) G (Hw Try.prog l) (Qr Try.f96):=by
 refine J6 (body:=Qa Try.f96 0) (QS vV) hrd (by kernel_rfl) ?_
 refine J3 (n0:=8) (QS vV) (by omega) (fun s hs=>Q3 (QS vV) 0 G _ hrd) (fun s hs=>qlr _) ?_ (QUY l hl) (s0:=0) (Nat.zero_le _) ?_
 ·rintro s e J (⟨_,_,rfl⟩|⟨_,_,rfl⟩)<;>exact qlr _
 ·rintro e J (⟨rfl,h,rfl⟩|⟨rfl,h,rfl⟩)
  ·exact⟨_,List.mem_cons_self,h,rfl,rfl⟩
  ·exact⟨_,List.mem_cons_of_mem _ List.mem_cons_self,h,rfl,rfl⟩
theorem QPu(x:FnK 84):Kd (mkE Try.prog X5) (Hw Try.prog l) Try.f96 (QU.vals 0 (l,x,())) (QU.blks 0 (l,x,())) 8 =
  QC.ask ((0:Nat)=(0:Nat)) (QC.ask (l.n=l.n) (QC.ask (Cap.of (0:Nat)=Cap.of (0:Nat)) (QC.ask (Fn.func (84:Nat)=Fn.func (84:FuncId)) (QC.ask ((↑l.n:Int)
  = (↑l.n:Int)) (QC.ask ((0:Int)=(0:Int)) (QC.ask (l.n≤l.n) (QC.ask (QD (7:Nat) l.n (fun i=>QA.enc (l.get i)) fun i=>QA.enc (l.get i)) (QC.both
  (QC.asm ((QP (Ja l) l.n (0:Nat)).isSome=true) (QC.all (fun(g0:Nat→Value)=>QC.leaf (AV.int false i64 (KP (QP (Ja l) l.n (0:Nat)))) ([]))))
  (QC.asm (QP (Ja l) l.n (0:Nat)=none) (QC.all (fun(g1:Nat→Value)=>QC.leaf (AV.int true i64 (-1:Int)) ([])))))))))))):=by kernel_rfl
def HL:WF (Rw Edge×FnK 84×Unit):=fun x=>(decide (x.1.n≤1000),.int false .i64 (KP (QP (Ja x.1) x.1.n 0)),[])
def QJU:FC:=wFC HL
theorem QQn:JN (mkE Try.prog X5) (Qr Try.f96) 8 HL (fun x=>Hw Try.prog x.1):=
 ⟨fun x hx G h1 h2=>QUQ x.1 (qdt hx) G h1 h2⟩
theorem QQG:JM (mkE Try.prog X5) Try.f96 8 HL (fun x=>Hw Try.prog x.1):=by
 refine⟨?_⟩;rintro⟨l,x,⟨⟩⟩ hp;refine⟨⟨rfl,by simp[HL],rfl⟩,⟨?_⟩⟩
 rw[QPu l x];refine Qc rfl (Qc rfl (Qc rfl (Qc rfl (Qc rfl (Qc rfl (Qc (qlr _) (Qc (qRr) (YE (KY fun h=>KX fun g => ?_) (KY fun h=>KX fun g => ?_)))))))))
 ·exact K7 ⟨rfl,rfl⟩ rfl
 ·exact K7 ⟨rfl,by show(-1:Int)=KP (QP (Ja l) l.n 0);rw[h];rfl⟩ rfl
theorem QOR:QQ Try.prog 96 QJU:=
 Jc (QS vV) Try.func96 (by kernel_rfl) (by kernel_rfl) (by decide) QQn QQG
def Z0:Tab:=Qb X5 96 QJU
theorem QDu:QV Z0:=vV.add QOR
def zM:WF ((Rw Edge)×(FnK 84)×Unit):=fun|(l,(x,_))=>(decide (l.n≤1000),.bool false (decide (KP (QP (Ja l) l.n 0)≥0)),[])
def QMu:FC:=wFC zM
theorem QOz(l:(Rw Edge))(x:(FnK 84)):Kd (mkE Try.prog Z0) (hnd (mkE Try.prog Z0) 0) Try.f83 (QU.vals 0 ((l,x,()):(Rw Edge)×(FnK 84)×Unit)) (QU.blks 0 ((l,x,()):(Rw Edge)×(FnK 84)×Unit)) 8 =
  QC.need (decide (l.n≤l.n)&&(true&&true)&&decide (l.n≤(1000:Nat))) (QC.leaf (AV.bool false (decide (KP (QP (Ja l) l.n (0:Nat))≥(0:Int)))) ([])):=by kernel_rfl
theorem QWU:JN (mkE Try.prog Z0) (Qr Try.f83) 8 zM (fun x_=>(hnd (mkE Try.prog Z0) 0)):=by
 refine⟨?_⟩;rintro⟨l,⟨x,⟨⟩⟩⟩ hp G h1 h2;exact Q3 (QS QDu) 0 G _ h1
theorem QOV:JM (mkE Try.prog Z0) Try.f83 8 zM (fun x_=>(hnd (mkE Try.prog Z0) 0)):=by
 refine⟨?_⟩;rintro⟨l,⟨x,⟨⟩⟩⟩ hp;refine⟨⟨rfl,by simp[zM],rfl⟩,⟨?_⟩⟩
 rw[QOz l x];simp only[zM]at hp;exact QF (by simpa using hp) (K7 rfl rfl)
theorem QOc:QQ Try.prog 83 QMu:=
 Jc (QS QDu) Try.func83 (by kernel_rfl) (by kernel_rfl) (by decide) QWU QOV
def ZY:Tab:=Qb Z0 83 QMu
theorem QC6:QV ZY:=QDu.add QOc
theorem QEI:∀(o:Option Nat),(!decide (KP o≥0))=o.isNone
 | some i=>by simp[KP]
 | none=>rfl
def j5:WF ((Rw Edge)×Unit):=fun|(l,_)=>(decide (l.n≤1000),.bool false (Xt (fun i=>(l.get i).ok) l.n),[])
def QHk:FC:=wFC j5
theorem QTQ(l:(Rw Edge)):Kd (mkE Try.prog ZY) (hnd (mkE Try.prog ZY) 0) Try.f60 (QU.vals 0 ((l,()):(Rw Edge)×Unit)) (QU.blks 0 ((l,()):(Rw Edge)×Unit)) 8 =
  QC.need (decide (l.n≤l.n)&&(true&&true)&&decide (l.n≤(1000:Nat))) (QC.leaf (AV.bool false !decide (KP (QP (Ja l) l.n (0:Nat))≥(0:Int))) ([])):=by kernel_rfl
theorem QQF:JN (mkE Try.prog ZY) (Qr Try.f60) 8 j5 (fun x_=>(hnd (mkE Try.prog ZY) 0)):=by
 refine⟨?_⟩;rintro⟨l,⟨⟩⟩ hp G h1 h2;exact Q3 (QS QC6) 0 G _ h1
theorem QN0:JM (mkE Try.prog ZY) Try.f60 8 j5 (fun x_=>(hnd (mkE Try.prog ZY) 0)):=by
 refine⟨?_⟩;rintro⟨l,⟨⟩⟩ hp;refine⟨⟨rfl,by simp[j5],rfl⟩,⟨?_⟩⟩
 rw[QTQ l];simp only[j5]at hp;exact QF (by simpa using hp) (K7 (QEI _) rfl)
theorem QQr:QQ Try.prog 60 QHk:=
 Jc (QS QC6) Try.func60 (by kernel_rfl) (by kernel_rfl) (by decide) QQF QN0
def V8:Tab:=Qb ZY 60 QHk
theorem vO:QV V8:=QC6.add QQr
def Kf{α:Type}[QA α](ty k:Nat)(l:List α)(d:α):Nat×Blk:=(k,.rowz true ty (QA.ks α) l.length fun i=>QA.enc (l.getD i d))
def Kj(q:Nat→Bool):Nat→List Int
 | 0=>[]
 | k+1=>match q k with
  | true=>Kj q k++[(k:Int)]
  | false=>Kj q k
theorem QG4(q:Nat→Bool):∀ k,(Kj q k).length≤k
 | 0=>qlr _
 | k+1=>by
  have:=QG4 q k;simp only[Kj];split<;>simp<;>omega
def Kq(l:Rw Edge)(i:Nat):Bool:=decide (Yp p s (l.get i)≥least)
def ZT(l:Rw Edge)(o:List Int)(k:Int):JSt:=
 ⟨30,[(2,.int false .i64 least),(4,.ptr 8 0 0),(5,.ptr 16 0 0),(8,.slz 24 0 o.length (.of 0)),(11,.slz 3 0 l.n (.of 0)),(12,.int false .i64 l.n),(13,.int false .i64 k)],
  [(8,.cells 0 25 (Enc.enc p).cells),(16,.cells 0 30 (Enc.enc s).cells),Kf 3 24 o 0]++Qz.blk 3 l,32⟩
def QMO:Ex→List Nat
 | .normal=>[2,4,5,8,11,12,13]
 | _=>[8]
noncomputable abbrev QK0:Nat×Blk:=
  (8,.cells 0 25 [vi p.length,vi p.slack,vi p.loose,vi p.damp.lo,vi p.damp.hi])
noncomputable abbrev QFX:Nat×Blk:=
  (16,.cells 0 30 [vi s.kind,vi s.at_.lo,vi s.at_.hi,vi s.wide.lo,vi s.wide.hi,vi s.deep.lo,.int
  false .i64 s.deep.hi])
noncomputable abbrev QKz:Nat×Blk:=
  (3,.frz [.int .i64,.int .i64,.int .i64,.int .i64,.int .i64,.int .i64,.int .i64] l.n fun i=>QA.enc (l.get i))
theorem QQl(l:Rw Edge)(o:List Int)(k:Nat)(g:Nat→Value):exec (mkE Try.prog V8) (hnd (mkE Try.prog V8) 0) (Qa Try.f91 0) (JSt.inst (ZT p s least l o k) g) (KL [] QMO) = .br (decide ((k:Int)<(l.n:Int))) (.need
  (decide ((0:Int)≤(k:Int)∧(k:Int)<(l.n:Int))&&decide (l.n≤l.n)) (.need (decide (k<l.n)) (.need (okP p s (l.get k)) (.br (decide (Yp p s (l.get k)≥least))
  (.need (decide (o.length≤o.length)&&(true&&decide ((o.length+1+(o.length+1) / 4+192)*8≤281474976710656∧o.length+1≤9223372036854775807))) (.leaf (.tup [.nilp,
  .ptr 30 0 0,vi least,.ptr 8 0 0,.ptr 16 0 0,.slz 160 0 (o.length+1) cO,.slz 3 0 l.n cO,vi (l.n:Int),.int false .i64
  (i64.wrap ((k:Int)+1))]) ([(QK0 p),(QFX s),(160,.rowz true 3 [.int .i64] (o.length+1) (QX o.length (fun i=>QA.enc (o.getD i 0)) (QR [[vi (k
  : Int)]] 0))),(QKz l)]))) (.leaf (.tup [.nilp,.ptr 30 0 0,vi least,.ptr 8 0 0,.ptr 16 0 0,.slz 24 0 o.length cO,.slz 3 0 l.n cO,.int false .i64
  (l.n:Int),vi (i64.wrap ((k:Int)+1))]) ([(QK0 p),(QFX s),(24,.rowz true 3 [.int .i64] o.length fun i=>QA.enc (o.getD i 0)),(QKz l)]))))))
  (.leaf (.tup [.ptr 0 0 0,.ptr 30 0 0,.slz 24 0 o.length cO]) ([(24,.rowz true 3 [.int .i64] o.length fun i=>QA.enc (o.getD i 0))])):=by kernel_rfl
theorem QOk(x:Int):QD 1 (o++[x]).length (QX o.length (fun i=>QA.enc (o.getD i 0)) (QR [[AV.int false i64 x]] 0)) (fun i=>QA.enc ((o++[x]).getD i 0)):=by
 intro i hi;refine⟨?_,trivial⟩;rw[XI];rw[List.length_append,List.length_singleton]at hi;split
 ·rename_i h;show o.getD i 0=(o++[x]).getD i 0;rw[List.getD_eq_getElem?_getD,List.getD_eq_getElem?_getD,List.getElem?_append_left h]
 ·rename_i h;have:i=o.length:=by omega
  subst this;show x=(o++[x]).getD o.length 0;simp
theorem QPt(l:Rw Edge)(n:Nat)(g:Nat→Nat→Int)(i:Int)(o:List Int)(k:Int):QK 8 [vi least,.ptr 8 0 0,.ptr 16 0 0,.slz 24 0 n cO,.slz 3 0 l.n cO,vi l.n,vi i] ([(8,.cells 0 25 (Enc.enc p).cells),(16,.cells 0 30 (Enc.enc s).cells),(24,.rowz true 3 [.int .i64] n g)]++Qz.blk 3 l) (ZT p s least l o k)=(
  some [least=least,(0:Nat)=(0:Nat),(0:Nat)=(0:Nat),(0:Nat)=(0:Nat),(0:Nat)=(0:Nat),(0:Nat)=(0:Nat),n=o.length,Cap.of (0:Nat)=Cap.of (0 :
  Nat),(0:Nat)=(0:Nat),l.n=l.n,Cap.of (0:Nat)=Cap.of (0:Nat),(↑l.n:Int)=(↑l.n:Int),i=k,p.length=p.length,p.slack=p.slack,p.loose=p.loose,p.damp.lo
  = p.damp.lo,p.damp.hi=p.damp.hi,s.kind=s.kind,s.at_.lo=s.at_.lo,s.at_.hi=s.at_.hi,s.wide.lo=s.wide.lo,s.wide.hi=s.wide.hi,s.deep.lo=s.deep.lo,s.deep.hi =
  s.deep.hi,o.length≤n,QD (1:Nat) o.length g fun i=>QA.enc (o.getD i (0:Int)),l.n≤l.n,QD (7:Nat) l.n (fun i=>QA.enc (l.get i)) fun i=>QA.enc (l.get
  i)]):=by kernel_rfl
theorem QVi(l:Rw Edge)(n:Nat)(g:Nat→Nat→Int)(i:Int)(o:List Int)(k:Int):QK 8 [vi least,.ptr 8 0 0,.ptr 16 0 0,.slz 160 0 n cO,.slz 3 0 l.n cO,vi l.n,vi i] ([(8,.cells 0 25 (Enc.enc p).cells),(16,.cells 0 30 (Enc.enc s).cells),(160,.rowz true 3 [.int .i64] n g)]++Qz.blk 3 l) (ZT p s least l o k)=(
  some [least=least,(0:Nat)=(0:Nat),(0:Nat)=(0:Nat),(0:Nat)=(0:Nat),(0:Nat)=(0:Nat),(0:Nat)=(0:Nat),n=o.length,Cap.of (0:Nat)=Cap.of (0 :
  Nat),(0:Nat)=(0:Nat),l.n=l.n,Cap.of (0:Nat)=Cap.of (0:Nat),(↑l.n:Int)=(↑l.n:Int),i=k,p.length=p.length,p.slack=p.slack,p.loose=p.loose,p.damp.lo
  = p.damp.lo,p.damp.hi=p.damp.hi,s.kind=s.kind,s.at_.lo=s.at_.lo,s.at_.hi=s.at_.hi,s.wide.lo=s.wide.lo,s.wide.hi=s.wide.hi,s.deep.lo=s.deep.lo,s.deep.hi =
  s.deep.hi,o.length≤n,QD (1:Nat) o.length g fun i=>QA.enc (o.getD i (0:Int)),l.n≤l.n,QD (7:Nat) l.n (fun i=>QA.enc (l.get i)) fun i=>QA.enc (l.get
  i)]):=by kernel_rfl
def jA:JSt:=⟨30,[(8,.slz 24 0 o.length (.of 0))],[Kf 3 24 o 0],32⟩
theorem QNA(n:Nat)(g:Nat→Nat→Int)(o:List Int):QK 8 [.slz 24 0 n cO] [(24,.rowz true 3 [.int .i64] n g)] (jA o)=(
  some [(0:Nat)=(0:Nat),n=o.length,Cap.of (0:Nat)=Cap.of (0:Nat),o.length≤n,QD (1:Nat) o.length g fun i=>QA.enc (o.getD i (0:Int))]):=by kernel_rfl
def QCI:Prop:=p.ok=true∧s.ok=true∧Xt (fun i=>(l.get i).ok) l.n=true∧l.n≤1000
theorem QV7(l:Rw Edge)(hl:QCI p s l):JW (fun k:Nat=>ZT p s least l (Kj (Kq p s least l) k) k) (fun k=>k≤l.n) (fun k=>l.n-k) (fun _ e J=>e = .exit 0∧J=jA (Kj (Kq p s least l) l.n)) 8 QMO [] (mkE Try.prog V8) (fun _=>hnd (mkE Try.prog V8) 0) (Qa Try.f91 0):=by
 obtain⟨h1,h2,h3,h4⟩:=hl;refine⟨fun k g hk=>⟨za (QQl p s least l _ k g) ?_⟩⟩;have hlen:=QG4 (Kq p s least l) k;refine QI (fun h => ?_) (fun h => ?_)
 ·have h:k<l.n:=by have:=qdt h;omega
  have hw:i64.wrap ((k:Int)+1)=((k+1:Nat):Int):=(w64 (by omega) (by omega)).trans (by omega)
  refine QF (by simp;omega) (QF (by simp;omega) (QF (by simp only[okP,h1,h2,QST h3 h];rfl) (QI (fun hb => ?_) (fun hb => ?_))))
  ·have e:Kj (Kq p s least l) (k+1)=Kj (Kq p s least l) k++[(k:Int)]:=by simp only[Kj,Kq];rw[hb]
   refine QF (by simp;omega) ⟨k+1,h,by show l.n-(k+1)<l.n-k;omega,fun _ _ h=>h,rfl,rfl,_,QVi _ _ _ _ _ _ _ _ _,?_⟩
   rw[e]
   repeat' first|exact trivial|with_reducible rfl|exact qlr _|exact qRr|exact hw|refine And.intro ?_ ?_
   ·simp
   ·simp
   ·exact QOk _ _
  ·have e:Kj (Kq p s least l) (k+1)=Kj (Kq p s least l) k:=by simp only[Kj,Kq];rw[hb]
   refine⟨k+1,h,by show l.n-(k+1)<l.n-k;omega,fun _ _ h=>h,rfl,rfl,_,QPt _ _ _ _ _ _ _ _ _,?_⟩
   rw[e]
   repeat' first|exact trivial|with_reducible rfl|exact qlr _|exact qRr|exact hw|refine And.intro ?_ ?_
 ·have:k=l.n:=by have:=of_decide_eq_false h;omega
  subst this;refine⟨_,⟨rfl,rfl⟩,rfl,rfl,_,QNA _ _ _,?_⟩
  repeat' first|exact trivial|with_reducible rfl|exact qlr _|exact qRr|refine And.intro ?_ ?_
theorem QQ0(l:Rw Edge)(hl:QCI p s l)(G:Ctx)(hrd:G.rd=none)(hG:G.n=8):KH (mkE Try.prog V8) G { hnd (mkE Try.prog V8) 1 with loop:=fun _=>KF 8 [] (ZT p s least l [] (0:Nat)) [(True,.exit 0,jA (Kj (Kq p s least l) l.n))] } (Qr Try.f91):=by
 refine J6 (body:=Qa Try.f91 0) (QS vO) hrd (by kernel_rfl) ?_
 refine J3 (n0:=8) (QS vO) (by omega) (fun s hs=>Q3 (QS vO) 0 G _ hrd) (fun s hs=>(by decide:8≤32)) ?_ (QV7 p s least l hl) (s0:=0) (Nat.zero_le _) ?_
 ·rintro s e J ⟨_,rfl⟩;exact(by decide:8≤32)
 ·rintro e J ⟨rfl,rfl⟩;exact⟨_,List.mem_cons_self,trivial,rfl,rfl⟩
theorem QOS:QK 8 [.slz 24 0 o.length cO] [(24,.rowz true 3 [.int .i64] o.length fun i=>QA.enc (o.getD i 0))] (Kr 8 (.slz 0 0 o.length cO) [Kf 3 0 o 0])=(
  some [(0:Nat)=(0:Nat),o.length=o.length,Cap.of (0:Nat)=Cap.of (0:Nat),o.length≤o.length,QD (1:Nat) o.length (fun i=>QA.enc (o.getD i (0:Int))) fun i
  => QA.enc (o.getD i (0:Int))]):=by kernel_rfl
def jC:WF (Qk×Edge×Int×(Rw Edge)×Unit):=fun|(p,(s,(least,(l,_))))=>(p.ok&&s.ok&&Xt (fun i=>(l.get i).ok) l.n&&decide (l.n≤1000),.slz 0 0 (Kj (Kq p s least l) l.n).length (.of 0),[Kf 3 0 (Kj (Kq p s least l) l.n) 0])
def QKq:FC:=wFC jC
theorem QSm(l:(Rw Edge)):Kd (mkE Try.prog V8) { hnd (mkE Try.prog V8) 1 with loop:=fun _=>KF 8 [] (ZT p s least l [] (0:Nat)) [(True,.exit 0,jA (Kj (Kq p s least l)
  l.n))] } Try.f91 (QU.vals 0 ((p,s,least,l,()):Qk×Edge×Int×(Rw Edge)×Unit)) (QU.blks 0 ((p,s,least,l,()):Qk×Edge×Int×(Rw Edge)×Unit)) 8 = .ask
  (least=least) (.ask (0=0) (.ask (0=0) (.ask (0=0) (.ask (0=0) (.ask (0=0) (.ask (0=0) (.ask (l.n=l.n) (.ask (cO=cO) (.ask ((l.n:Int)=(l.n:Int))
  (.ask ((0:Int)=0) (.ask (p.length=p.length) (.ask (p.slack=p.slack) (.ask (p.loose=p.loose) (.ask (p.damp.lo=p.damp.lo) (.ask (p.damp.hi=p.damp.hi) (.ask (s.kind =
  s.kind) (.ask (s.at_.lo=s.at_.lo) (.ask (s.at_.hi=s.at_.hi) (.ask (s.wide.lo=s.wide.lo) (.ask (s.wide.hi=s.wide.hi) (.ask (s.deep.lo=s.deep.lo) (.ask (s.deep.hi =
  s.deep.hi) (.ask (0=0) (.ask (l.n≤l.n) (.ask (QD 7 l.n (fun i=>QA.enc (l.get i)) fun i=>QA.enc (l.get i)) (.asm (True) (.all (fun(g0:Nat→Value) => .leaf (.slz
  24 0 (Kj (Kq p s least l) l.n).length cO) ([(24,.rowz true 3 [.int .i64] (Kj (Kq p s least l) l.n).length fun i=>QA.enc ((Kj (Kq p s least l)
  l.n).getD i 0))]))))))))))))))))))))))))))))):=by kernel_rfl
theorem QVo:JN (mkE Try.prog V8) (Qr Try.f91) 8 jC (fun x_=>{ hnd (mkE Try.prog V8) 1 with loop:=fun _=>KF 8 [] (ZT x_.1 x_.2.1 x_.2.2.1 x_.2.2.2.1 [] (0:Nat)) [(True,.exit 0,jA (Kj (Kq x_.1 x_.2.1 x_.2.2.1 x_.2.2.2.1) x_.2.2.2.1.n))] }):=by
 refine⟨?_⟩;rintro⟨p,⟨s,⟨least,⟨l,⟨⟩⟩⟩⟩⟩ hp G h1 h2;exact QQ0 p s least l (by simpa[jC,QCI,and_assoc]using hp) G h1 h2
theorem QPY:JM (mkE Try.prog V8) Try.f91 8 jC (fun x_=>{ hnd (mkE Try.prog V8) 1 with loop:=fun _=>KF 8 [] (ZT x_.1 x_.2.1 x_.2.2.1 x_.2.2.2.1 [] (0:Nat)) [(True,.exit 0,jA (Kj (Kq x_.1 x_.2.1 x_.2.2.1 x_.2.2.2.1) x_.2.2.2.1.n))] }):=by
 refine⟨?_⟩;rintro⟨p,⟨s,⟨least,⟨l,⟨⟩⟩⟩⟩⟩ hp;refine⟨⟨rfl,by simp[jC,Kf,Blk.own,Blk.all],rfl⟩,⟨?_⟩⟩
 rw[QSm p s least l];simp only[jC]at hp
 repeat' first|refine Qc (by with_reducible rfl) ?_|refine Qc (qlr _) ?_|refine Qc (qRr) ?_
 refine KY fun _=>KX fun g=>⟨rfl,rfl,_,QOS _,?_⟩
 repeat' first|exact trivial|with_reducible rfl|exact qlr _|exact qRr|refine And.intro ?_ ?_
theorem QPg:QQ Try.prog 91 QKq:=
 Jc (QS vO) Try.func91 (by kernel_rfl) (by kernel_rfl) (by decide) QVo QPY
def Zu:Tab:=Qb V8 91 QKq
theorem QDQ:QV Zu:=vO.add QPg
def V2:Bool:=p.ok&&(s.ok&&Xt (fun i=>(l.get i).ok) l.n)
def X0:Int:=match V2 p s l with
 | true=>(match decide (l.n>40)with|true=>3|false=>0)
 | false=>1
def Ju(l:Rw Edge):List Int:=match V2 p s l&&decide (l.n≤40)with
 | true=>Kj (Kq p s least l) l.n
 | false=>[]
theorem QOx(e f:Int)(o q:List Int):QK 8 [.tup [.nils,.nils,vj e]] [] (Kr 8 (.tup [.slz 0 0 o.length cO,.slz 1 0 q.length cO,vi f]) [Kf 3 0 o 0,Kf 3 1 q 0])=(
  some [o.length=(0:Nat),q.length=(0:Nat),e=f,o.length=(0:Nat),q.length=(0:Nat)]):=by kernel_rfl
theorem QRm(n m:Nat)(g h:Nat→Nat→Int)(e f:Int)(o q:List Int):QK 8 [.tup [.slz 216 0 n cO,.slz 248 0 m cO,vj e]] [(216,.rowz true 3 [.int .i64] n g),(248,.rowz true 3 [.int .i64] m h)] (Kr 8 (.tup [.slz 0 0 o.length cO,.slz 1 0 q.length cO,vi f]) [Kf 3 0 o 0,Kf 3 1 q 0])=(
  some [(0:Nat)=(0:Nat),n=o.length,Cap.of (0:Nat)=Cap.of (0:Nat),(0:Nat)=(0:Nat),m=q.length,Cap.of (0:Nat)=Cap.of (0:Nat),e=f,o.length≤n,QD
  (1:Nat) o.length g fun i=>QA.enc (o.getD i (0:Int)),q.length≤m,QD (1:Nat) q.length h fun i=>QA.enc (q.getD i (0:Int))]):=by kernel_rfl
def WI:WF (Qk×Edge×(Rw Edge)×Unit):=fun|(p,(s,(l,_)))=>(decide (l.n≤1000),.tup [.slz 0 0 (Ju p s 2 l).length (.of 0),.slz 1 0 (Ju p s 1 l).length (.of 0),.int false .i64 (X0 p s l)],[Kf 3 0 (Ju p s 2 l) 0,Kf 3 1 (Ju p s 1 l) 0])
def QJS:FC:=wFC WI
theorem QTS(l:(Rw Edge)):Kd (mkE Try.prog Zu) (hnd (mkE Try.prog Zu) 0) Try.f72 (QU.vals 0 ((p,s,l,()):Qk×Edge×(Rw Edge)×Unit)) (QU.blks 0 ((p,s,l,()):Qk×Edge ×
  (Rw Edge)×Unit)) 8 = .need (true) (.br (!p.ok) (.leaf (.tup [.nils,.nils,vj 1]) ([])) (.need (true) (.br (!s.ok) (.leaf (.tup [.nils,.nils,vj 1]) ([]))
  (.need (decide (l.n≤l.n)&&true&&decide (l.n≤1000)) (.br (!Xt (fun i=>(l.get i).ok) l.n) (.leaf (.tup [.nils,.nils,vj 1]) ([])) (.br (decide ((l.n:Int) >
  40)) (.leaf (.tup [.nils,.nils,vj 3]) ([])) (.need (true&&(true&&(true&&(decide (l.n≤l.n)&&true)))&&(p.ok&&s.ok&&Xt (fun i=>(l.get i).ok) l.n &&
  decide (l.n≤1000))) (.need (true&&(true&&(true&&(decide (l.n≤l.n)&&true)))&&(p.ok&&s.ok&&Xt (fun i=>(l.get i).ok) l.n&&decide (l.n≤1000))) (.leaf (.tup
  [.slz 216 0 (Kj (Kq p s (2:Int) l) l.n).length cO,.slz 248 0 (Kj (Kq p s (1:Int) l) l.n).length cO,vj 0]) ([(216,.rowz true 3 [.int
  .i64] (Kj (Kq p s (2:Int) l) l.n).length fun i=>QA.enc ((Kj (Kq p s (2:Int) l) l.n).getD i 0)),(248,.rowz true 3 [.int .i64] (Kj (Kq p s (1:Int) l)
  l.n).length fun i=>QA.enc ((Kj (Kq p s (1:Int) l) l.n).getD i 0))])))))))))):=by kernel_rfl
theorem QVK:JN (mkE Try.prog Zu) (Qr Try.f72) 8 WI (fun x_=>(hnd (mkE Try.prog Zu) 0)):=by
 refine⟨?_⟩;rintro⟨p,⟨s,⟨l,⟨⟩⟩⟩⟩ hp G h1 h2;exact Q3 (QS QDQ) 0 G _ h1
theorem QPd:JM (mkE Try.prog Zu) Try.f72 8 WI (fun x_=>(hnd (mkE Try.prog Zu) 0)):=by
 refine⟨?_⟩;rintro⟨p,⟨s,⟨l,⟨⟩⟩⟩⟩ hp;refine⟨⟨rfl,by simp[WI,Kf,Blk.own,Blk.all],rfl⟩,⟨?_⟩⟩
 rw[QTS p s l];simp only[WI]at hp;have hn:l.n≤1000:=qdt hp
 have no:∀ e:Int,Ju p s 2 l=[]→Ju p s 1 l=[]→X0 p s l=e→(QC.leaf (AV.tup [AV.nils,AV.nils,AV.int true i64 e]) []).den (XX 8 (WI (p,s,l,())).2.1 (WI (p,s,l,())).2.2):=by
  intro e h1 h2 h3;refine⟨rfl,rfl,_,QOx _ _ _ _,?_⟩;rw[h1,h2,h3];exact⟨rfl,rfl,rfl,rfl,rfl,trivial⟩
 refine QF rfl (QI (fun h => ?_) (fun h=>QF rfl (QI (fun h2 => ?_) (fun h2=>QF (by simpa using hn) (QI (fun h3 => ?_) (fun h3=>QI (fun h4 => ?_) (fun h4 => ?_)))))))
 ·have e:V2 p s l=false:=by simp[V2]at h ⊢;simp[h]
  exact no 1 (by simp[Ju,e]) (by simp[Ju,e]) (by simp[X0,e])
 ·have e:V2 p s l=false:=by simp[V2]at h2 ⊢;simp[h2]
  exact no 1 (by simp[Ju,e]) (by simp[Ju,e]) (by simp[X0,e])
 ·have e:V2 p s l=false:=by simp[V2]at h3 ⊢;simp[h3]
  exact no 1 (by simp[Ju,e]) (by simp[Ju,e]) (by simp[X0,e])
 ·have h4:l.n>40:=by have:=qdt h4;omega
  have e1:decide (l.n>40)=true:=decide_eq_true h4;have e2:decide (l.n≤40)=false:=decide_eq_false (by omega)
  have e:V2 p s l=true:=by simp[V2]at h h2 h3 ⊢;exact⟨h,h2,h3⟩
  exact no 3 (by simp only[Ju,e,e2];rfl) (by simp only[Ju,e,e2];rfl) (by simp only[X0,e,e1])
 ·have h4:¬ l.n>40:=by have:=of_decide_eq_false h4;omega
  have e1:decide (l.n>40)=false:=decide_eq_false h4;have e2:decide (l.n≤40)=true:=decide_eq_true (by omega)
  have e:V2 p s l=true:=by simp[V2]at h h2 h3 ⊢;exact⟨h,h2,h3⟩
  have hq:(p.ok&&s.ok&&Xt (fun i=>(l.get i).ok) l.n&&decide (l.n≤1000))=true:=by simp at h h2 h3;simp[h,h2,h3,hn]
  refine QF (by simp only[hq];simp) (QF (by simp only[hq];simp) ⟨rfl,rfl,_,QRm _ _ _ _ _ _ _ _,?_⟩)
  have k2:Ju p s 2 l=Kj (Kq p s 2 l) l.n:=by simp only[Ju,e,e2];rfl
  have k1:Ju p s 1 l=Kj (Kq p s 1 l) l.n:=by simp only[Ju,e,e2];rfl
  have k3:X0 p s l=0:=by simp only[X0,e,e1]
  rw[k1,k2,k3]
  repeat' first|exact trivial|with_reducible rfl|exact qlr _|exact qRr|refine And.intro ?_ ?_
theorem QQk:QQ Try.prog 72 QJS:=
 Jc (QS QDQ) Try.func72 (by kernel_rfl) (by kernel_rfl) (by decide) QVK QPd
def GO:Tab:=Qb Zu 72 QJS
theorem QHr:QV GO:=QDQ.add QQk
def com(x y:Sp):Bool:=decide (x.lo≤y.hi)&&decide (y.lo≤x.hi)
def isF(b s:Edge):Bool:=(b.kind==s.kind)&&(com b.at_ s.at_&&(com b.wide s.wide&&com b.deep s.deep))
def QF6:Edge×Edge×Unit→Bool×AV:=fun|(b,(s,_))=>(true,.bool false (isF b s))
def QJH:FC:=Q5 (Q6 QF6)
theorem QWH(b:Edge)(s:Edge):Q2 (mkE Try.prog GO) (hnd (mkE Try.prog GO) 3) false Try.f125 (Qm.enc ((b,s,()):Edge×Edge×Unit)) [] 0 =
  QC.br (b.kind==s.kind) (QC.br (decide (b.at_.lo≤s.at_.hi)) (QC.br (decide (s.at_.lo≤b.at_.hi)) (QC.br (decide (b.wide.lo≤s.wide.hi)) (QC.br (decide (s.wide.lo ≤
  b.wide.hi)) (QC.br (decide (b.deep.lo≤s.deep.hi)) (QC.leaf (AV.bool false (decide (s.deep.lo≤b.deep.hi))) ([])) (QC.leaf (AV.bool true false) ([]))) (QC.leaf (AV.bool
  true false) ([]))) (QC.leaf (AV.bool true false) ([]))) (QC.leaf (AV.bool true false) ([]))) (QC.leaf (AV.bool true false) ([]))) (QC.leaf (AV.bool true false) ([])):=by kernel_rfl
theorem QS7:QQ Try.prog 125 QJH:=by
 refine KC QHr 3 Try.func125 (by kernel_rfl) (by kernel_rfl) ?_
 rintro⟨b,s,⟨⟩⟩ hp;rw[QWH b s];simp only[QF6,QC.den,AV.same,AV.sameL,and_true,true_and]at hp ⊢;simp only[isF,com];generalize (b.kind==s.kind)=x1;generalize decide (b.at_.lo≤s.at_.hi)=x2
 generalize decide (s.at_.lo≤b.at_.hi)=x3
 generalize decide (b.wide.lo≤s.wide.hi)=x4;generalize decide (s.wide.lo≤b.wide.hi)=x5;generalize decide (b.deep.lo≤s.deep.hi)=x6;generalize decide (s.deep.lo≤b.deep.hi)=x7;cases x1<;>cases x2<;>cases x3<;>cases x4<;>cases x5<;>cases x6<;>cases x7<;>simp
def V9:Tab:=Qb GO 125 QJH
theorem zX:QV V9:=QHr.add QS7
structure QG where
 up:Edge
 right:Edge
 down:Edge
 left:Edge
def QG.ok(p:QG):Bool:=p.up.ok&&(p.right.ok&&(p.down.ok&&p.left.ok))
instance : QA QG where
  ks := [.int .i64,.int .i64,.int .i64,.int .i64,.int .i64,.int .i64,.int .i64,.int .i64,.int .i64,.int .i64,.int .i64,.int .i64,.int .i64,.int .i64,.int .i64,.int .i64,.int .i64,.int .i64,.int .i64,.int .i64,.int .i64,.int .i64,.int .i64,.int .i64,.int .i64,.int .i64,.int .i64,.int .i64]
  enc p j := match j with
    | 0 => p.up.kind
    | 1 => p.up.at_.lo
    | 2 => p.up.at_.hi
    | 3 => p.up.wide.lo
    | 4 => p.up.wide.hi
    | 5 => p.up.deep.lo
    | 6 => p.up.deep.hi
    | 7 => p.right.kind
    | 8 => p.right.at_.lo
    | 9 => p.right.at_.hi
    | 10 => p.right.wide.lo
    | 11 => p.right.wide.hi
    | 12 => p.right.deep.lo
    | 13 => p.right.deep.hi
    | 14 => p.down.kind
    | 15 => p.down.at_.lo
    | 16 => p.down.at_.hi
    | 17 => p.down.wide.lo
    | 18 => p.down.wide.hi
    | 19 => p.down.deep.lo
    | 20 => p.down.deep.hi
    | 21 => p.left.kind
    | 22 => p.left.at_.lo
    | 23 => p.left.at_.hi
    | 24 => p.left.wide.lo
    | 25 => p.left.wide.hi
    | 26 => p.left.deep.lo
    | _ => p.left.deep.hi
  dec f := ⟨⟨f 0,⟨f 1,f 2⟩,⟨f 3,f 4⟩,⟨f 5,f 6⟩⟩,⟨f 7,⟨f 8,f 9⟩,⟨f 10,f 11⟩,⟨f 12,f 13⟩⟩,⟨f 14,⟨f 15,f 16⟩,⟨f 17,f 18⟩,⟨f 19,f 20⟩⟩,⟨f 21,⟨f 22,f 23⟩,⟨f 24,f 25⟩,⟨f 26,f 27⟩⟩⟩
  ok _ := rfl
instance : Enc QG where
  enc p := .agg [.int false .i64 p.up.kind,.int false .i64 p.up.at_.lo,.int false .i64 p.up.at_.hi,.int false .i64 p.up.wide.lo,.int false .i64 p.up.wide.hi,.int false .i64 p.up.deep.lo,.int false .i64 p.up.deep.hi,.int false .i64 p.right.kind,.int false .i64 p.right.at_.lo,.int false .i64 p.right.at_.hi,.int false .i64 p.right.wide.lo,.int false .i64 p.right.wide.hi,.int false .i64 p.right.deep.lo,.int false .i64 p.right.deep.hi,.int false .i64 p.down.kind,.int false .i64 p.down.at_.lo,.int false .i64 p.down.at_.hi,.int false .i64 p.down.wide.lo,.int false .i64 p.down.wide.hi,.int false .i64 p.down.deep.lo,.int false .i64 p.down.deep.hi,.int false .i64 p.left.kind,.int false .i64 p.left.at_.lo,.int false .i64 p.left.at_.hi,.int false .i64 p.left.wide.lo,.int false .i64 p.left.wide.hi,.int false .i64 p.left.deep.lo,.int false .i64 p.left.deep.hi]
  dec
    | .agg [.int _ .i64 a0,.int _ .i64 a1,.int _ .i64 a2,.int _ .i64 a3,.int _ .i64 a4,.int _ .i64 a5,.int _ .i64 a6,.int _ .i64 a7,.int _ .i64 a8,.int _ .i64 a9,.int _ .i64 a10,.int _ .i64 a11,.int _ .i64 a12,.int _ .i64 a13,.int _ .i64 a14,.int _ .i64 a15,.int _ .i64 a16,.int _ .i64 a17,.int _ .i64 a18,.int _ .i64 a19,.int _ .i64 a20,.int _ .i64 a21,.int _ .i64 a22,.int _ .i64 a23,.int _ .i64 a24,.int _ .i64 a25,.int _ .i64 a26,.int _ .i64 a27] => some ⟨⟨a0,⟨a1,a2⟩,⟨a3,a4⟩,⟨a5,a6⟩⟩,⟨a7,⟨a8,a9⟩,⟨a10,a11⟩,⟨a12,a13⟩⟩,⟨a14,⟨a15,a16⟩,⟨a17,a18⟩,⟨a19,a20⟩⟩,⟨a21,⟨a22,a23⟩,⟨a24,a25⟩,⟨a26,a27⟩⟩⟩
    | _ => none
  ok v x h := by
    split at h <;> (try (cases h; done))
    simp only[qsI]at h; subst h;exact⟨fun _ => rfl,rfl⟩
structure Puz where
 play:Qk
 wide:Int
 high:Int
 turn:Bool
 ps:Rw QG
instance : Qz Puz where
  val k x := .agg [.int false .i64 x.play.length,.int false .i64 x.play.slack,.int false .i64 x.play.loose,.int false .i64 x.play.damp.lo,.int false .i64 x.play.damp.hi,.int false .i64 x.wide,.int false .i64 x.high,.bool false x.turn,Qz.val k x.ps]
  blk k x := Qz.blk k x.ps
  dec v lk := match v with
    | .agg [.int _ .i64 a,.int _ .i64 b,.int _ .i64 c,.int _ .i64 d,.int _ .i64 e,.int _ .i64 f,.int _ .i64 g,.bool _ t,s] => (match (Qz.dec s lk : Option (Bool × Rw QG))with
      | some (p,x) => some (p,⟨⟨a,b,c,⟨d,e⟩⟩,f,g,t,x⟩)
      | none => none)
    | _ => none
  ok v lk p x h hp := by
    split at h <;> (try (cases h; done))
    split at h <;> (try (cases h; done))
    rename_i a b c d e f g t s p' x' hd;simp only[qsI,qpI]at h;obtain⟨rfl,rfl⟩ := h;obtain⟨h1,h2⟩ := Qz.ok _ _ _ _ hd hp;refine⟨fun k => ⟨?_,(h1 k).2⟩,fun r w hb => ?_⟩
    · have := (h1 k).1
      simp only[AV.all,AV.allL,Bool.true_and,Bool.and_true]; exact this
    · obtain⟨l,hl⟩ := h2 r w hb
      refine⟨l,fun k r' hr => ⟨?_,(hl k r' hr).2⟩⟩;have := (hl k r' hr).1;simp only[AV.den,AV.denL]at this ⊢;rw[this]
def QJO:AV→Bool
 | .agg _=>true
 | _=>false
theorem QQj{v:AV}(h:QJO v=true):∃ l,v = .agg l:=by
 cases v<;>first|(cases h;done)|exact⟨_,rfl⟩
structure FnC (α:Type) (g ty:Nat) where
 x:α
instance {α : Type} [Enc α] (g ty : Nat) : Qz (FnC α g ty) where
  val k _ := .fn (.func g) [.ptr k 0 0]
  blk k x := [(k,.cellsR 0 ty (Enc.enc x.x).cells)]
  dec v lk := match v with
    | .fn (.func g') [.ptr id e j] => (match Nat.beq g' g && (Nat.beq e 0 && Nat.beq j 0)with
      | true => (match lk id with
        | some (.cellsR z ty' l) => (match Nat.beq ty' ty && Nat.beq z 0 with
          | true => (match (Enc.dec (.agg l) : Option α)with
            | some a => (match QJO (Enc.enc a)with | true => some (true,⟨a⟩) | false => none)
            | none => none)
          | false => none)
        | _ => none)
      | false => none)
    | _ => none
  ok v lk p x h _ := by
    split at h <;> (try (cases h; done))
    rename_i g' id e j;split at h <;> (try (cases h; done))
    rename_i hg;split at h <;> (try (cases h; done))
    rename_i z ty' l hlk;split at h <;> (try (cases h; done))
    rename_i hz;split at h <;> (try (cases h; done))
    rename_i a ha;split at h <;> (try (cases h; done))
    rename_i hagg;simp only[qbA]at hg hz;have hg1 := Nat.eq_of_beq_eq_true hg.1;have he := Nat.eq_of_beq_eq_true hg.2.1;have hj := Nat.eq_of_beq_eq_true hg.2.2;have ht := Nat.eq_of_beq_eq_true hz.1;have hz0 := Nat.eq_of_beq_eq_true hz.2;subst hg1 he hj ht hz0;simp only[qsI,qpI]at h;obtain⟨_,rfl⟩ := h;obtain⟨k1,k2⟩ := Enc.ok _ _ ha;obtain⟨l',hl'⟩ := QQj hagg;rw[hl']at k1 k2;have hcl : (Enc.enc a).cells = l' := by rw[hl']; rfl
    have k3 : ∀ r,AV.denL r l' = AV.denL r l := fun r => by
      have := k1 r;simp only[AV.den,Value.agg.injEq]at this;exact Array.toList_inj.2 this |> fun h => by simpa using h
    refine⟨fun k => ⟨by simp[AV.all,AV.allL],fun q hq => ?_⟩,fun r w hb => ⟨r id,fun k r' hr => ⟨?_,fun q hq => ?_⟩⟩⟩
    · simp only[List.mem_singleton]at hq; subst hq
      refine⟨rfl,rfl,?_⟩;show AV.allL _ (Enc.enc a).cells = true;rw[hcl]; exact k2
    · simp only[AV.den,AV.denL,hr]
    · simp only[List.mem_singleton]at hq; subst hq
      obtain⟨b1,b2,b3⟩ := hb _ _ hlk;refine⟨by rw[hr]; exact b1,by rw[hr]; exact b2,?_⟩
      show bk w (r' k).blk = some (.cells (AV.denL r' (Enc.enc a).cells).toArray _ _);rw[hr,hcl,denL_congr (p := fun _ => false) (r := r') (r' := r) (fun _ hf => by cases hf) _ k2,k3 r]
      exact b3
abbrev Jy:Type:=FnC Qk 71 25
def K2:Edge:=⟨0,⟨0,0⟩,⟨0,0⟩,⟨0,0⟩⟩
def Kk(m:Jy)(l:Rw QG)(i:Nat):Bool := !(m.x.ok&&(l.get i).ok)
theorem QMf(x:QG)(L:Rw Edge)(hn:L.n=4)(h0:L.get 0=x.up)(h1:L.get 1=x.right)(h2:L.get 2=x.down)(h3:L.get 3=x.left):(X0 p K2 L != 0) = !(p.ok&&x.ok):=by
 have z:K2.ok=true:=by decide
 have e:V2 p K2 L=(p.ok&&x.ok):=by
  simp only[V2,z,Xt,QP,hn,h0,h1,h2,h3,QG.ok,Bool.true_and];cases p.ok<;>cases x.up.ok<;>cases x.right.ok<;>cases x.down.ok<;>cases x.left.ok<;>rfl
 have d:decide (L.n>40)=false:=by rw[hn];rfl
 simp only[X0,e,d];cases p.ok&&x.ok<;>rfl
def idp(l:Rw QG)(m:Jy):List (Nat×Blk):=Qz.blk 0 l++Qz.blk 1 m
def QAV(l:Rw QG)(m:Jy)(k:Nat):JSt:=⟨19,[(0,.slz 0 0 l.n (.of 0)),(1,Qz.val 1 m),(7,.int false .i64 l.n),(8,.int false .i64 k)],idp l m,8⟩
noncomputable abbrev WU(l:Rw QG):List AV:=
  [vi (l.get k).up.kind,vi (l.get k).up.at_.lo,vi (l.get k).up.at_.hi,vi (l.get k).up.wide.lo,vi (l.get
  k).up.wide.hi,vi (l.get k).up.deep.lo,vi (l.get k).up.deep.hi]
noncomputable abbrev WX(l:Rw QG):List AV:=
  [vi (l.get k).right.kind,vi (l.get k).right.at_.lo,vi (l.get k).right.at_.hi,vi (l.get k).right.wide.lo,.int false .i64
  (l.get k).right.wide.hi,vi (l.get k).right.deep.lo,vi (l.get k).right.deep.hi]
noncomputable abbrev Wu(l:Rw QG):List AV:=
  [vi (l.get k).down.kind,vi (l.get k).down.at_.lo,vi (l.get k).down.at_.hi,vi (l.get k).down.wide.lo,vi (l.get
  k).down.wide.hi,vi (l.get k).down.deep.lo,vi (l.get k).down.deep.hi]
noncomputable abbrev WD(l:Rw QG):List AV:=
  [vi (l.get k).left.kind,vi (l.get k).left.at_.lo,vi (l.get k).left.at_.hi,vi (l.get k).left.wide.lo,vi (l.get
  k).left.wide.hi,vi (l.get k).left.deep.lo,vi (l.get k).left.deep.hi]
theorem QRR(l:Rw QG)(m:Jy)(k:Nat)(g:Nat→Value):exec (mkE Try.prog V9) (hnd (mkE Try.prog V9) 4) (Qa Try.f90 0) (JSt.inst (QAV l m k) g) (KL [] W6) = .br (decide ((k:Int)<(l.n:Int))) (.need (decide ((0 :
  Int)≤(k:Int)∧(k:Int)<(l.n:Int))&&decide (l.n≤l.n)) (.need (decide (k<l.n)) (.need (true&&(true&&(true&&true))&&decide (4≤1000)) (.br (X0 m.x (Edge.mk
  (0:Int) (Sp.mk (0:Int) (0:Int)) (Sp.mk (0:Int) (0:Int)) (Sp.mk (0:Int) (0:Int))) (Rw.mk 4 fun i=>Edge.mk (QR [(WU k l),(WX k l),(Wu k l),(WD k l)] 0 i
  0) (Sp.mk (QR [(WU k l),(WX k l),(Wu k l),(WD k l)] 0 i 1) (QR [(WU k l),(WX k l),(Wu k l),(WD k l)] 0 i 2)) (Sp.mk (QR [(WU k l),(WX k l),(Wu k
  l),(WD k l)] 0 i 3) (QR [(WU k l),(WX k l),(Wu k l),(WD k l)] 0 i 4)) (Sp.mk (QR [(WU k l),(WX k l),(Wu k l),(WD k l)] 0 i 5) (QR [(WU k l),(WX k
  l),(Wu k l),(WD k l)] 0 i 6))) != 0) (.leaf (.tup [.nili,.ptr 19 0 0,vi (k:Int)]) ([])) (.leaf (.tup [.nilp,.ptr 19 0 0,.slz 0 0 l.n cO,.fn
  (Fn.func 71) [.ptr 1 0 0],vi (l.n:Int),vi (i64.wrap ((k:Int)+1))]) ([(0,.frz [.int .i64,.int .i64,.int .i64,.int .i64,.int .i64,.int
  .i64,.int .i64,.int .i64,.int .i64,.int .i64,.int .i64,.int .i64,.int .i64,.int .i64,.int .i64,.int .i64,.int .i64,.int .i64,.int .i64,.int .i64,.int .i64,.int .i64,
  .int .i64,.int .i64,.int .i64,.int .i64,.int .i64,.int .i64] l.n fun i=>QA.enc (l.get i)),(1,.cellsR 0 25 [vi m.x.length,vi m.x.slack,.int
  false .i64 m.x.loose,vi m.x.damp.lo,vi m.x.damp.hi])])))))) (.leaf (.tup [.ptr 0 0 0,.ptr 19 0 0]) ([])):=by kernel_rfl
def QIE(l:Rw QG)(m:Jy)(k:Nat)(e:Ex)(J:JSt):Prop:=(e = .ret∧(QP (Kk m l) (l.n-k) k).isSome=true∧J=⟨19,[(4,.int false .i64 (KP (QP (Kk m l) (l.n-k) k)))],[],8⟩)∨(e = .exit 0∧QP (Kk m l) (l.n-k) k=none∧J=⟨19,[],[],8⟩)
theorem QVM(l:Rw QG)(m:Jy)(k:Nat)(i:Int):QK 8 [.slz 0 0 l.n cO,Qz.val 1 m,vi l.n,vi i] (idp l m) (QAV l m k)=(
  some [(0:Nat)=(0:Nat),l.n=l.n,Cap.of (0:Nat)=Cap.of (0:Nat),Fn.func (71:Nat)=Fn.func (71:Nat),(0:Nat)=(0:Nat),(0:Nat)=(0:Nat),(↑l.n:Int) =
  (↑l.n:Int),i=(↑k:Int),l.n≤l.n,QD (28:Nat) l.n (fun i=>QA.enc (l.get i)) fun i=>QA.enc (l.get i),m.x.length=m.x.length,m.x.slack=m.x.slack,m.x.loose =
  m.x.loose,m.x.damp.lo=m.x.damp.lo,m.x.damp.hi=m.x.damp.hi]):=by kernel_rfl
theorem QQ8(l:Rw QG)(m:Jy)(hl:l.n≤1000):JW (QAV l m) (fun k=>k≤l.n) (fun k=>l.n-k) (QIE l m) 8 W6 [] (mkE Try.prog V9) (fun _=>hnd (mkE Try.prog V9) 4) (Qa Try.f90 0):=by
 refine⟨fun k g hk=>⟨za (QRR l m k g) ?_⟩⟩;refine QI (fun h => ?_) (fun h => ?_)
 ·have h:k<l.n:=by have:=qdt h;omega
  obtain⟨n,hm⟩:∃ n,l.n-k=n+1:=⟨l.n-k-1,by omega⟩
  have hm':l.n-(k+1)=n:=by omega
  refine QF (by simp;omega) (QF (by simp;omega) (QF rfl (QI (fun hb => ?_) (fun hb => ?_))))
  ·have hf:QP (Kk m l) (l.n-k) k=some k:=by rw[hm,QP];unfold Kk;rw[(QMf m.x (l.get k) _ rfl rfl rfl rfl rfl).symm.trans hb]
   exact⟨_,.inl ⟨rfl,by rw[hf];rfl,rfl⟩,rfl,rfl,_,Wy _ _,by rw[hf];exact⟨rfl,trivial⟩⟩
  ·have hf:QP (Kk m l) (l.n-k) k=QP (Kk m l) (l.n-(k+1)) (k+1):=by rw[hm,hm',QP];unfold Kk;rw[(QMf m.x (l.get k) _ rfl rfl rfl rfl rfl).symm.trans hb]
   refine⟨k+1,by omega,by show l.n-(k+1)<l.n-k;omega,fun e J h=>by unfold QIE at h ⊢;rw[hf];exact h,rfl,rfl,_,QVM _ _ _ _,?_⟩
   repeat' first|exact trivial|with_reducible rfl|exact qlr _|exact qRr|exact(w64 (by omega) (by omega)).trans (by omega)|refine And.intro ?_ ?_
 ·have h:l.n≤k:=by have:=of_decide_eq_false h;omega
  have hf:QP (Kk m l) (l.n-k) k=none:=by rw[show l.n-k=0 by omega];rfl
  exact⟨_,.inr ⟨rfl,hf,rfl⟩,rfl,rfl,_,QCt,trivial⟩
def QSP(l:Rw QG)(m:Jy):List (Prop×Ex×JSt):=[((QP (Kk m l) l.n 0).isSome=true,.ret,⟨19,[(4,.int false .i64 (KP (QP (Kk m l) l.n 0)))],[],8⟩),(QP (Kk m l) l.n 0=none,.exit 0,⟨19,[],[],8⟩)]
abbrev QAm(l:Rw QG)(m:Jy):Code→St→(Ex→St→QC)→QC:=fun _=>KF 8 [] (QAV l m 0) (QSP l m)
theorem QP9(l:Rw QG)(m:Jy)(hl:l.n≤1000)(G:Ctx)(hrd:G.rd=none)(hG:G.n=8):KH (mkE Try.prog V9) G { hnd (mkE Try.prog V9) 1 with loop:=QAm l m } (Qr Try.f90):=by
 refine J6 (body:=Qa Try.f90 0) (QS zX) hrd (by kernel_rfl) ?_
 refine J3 (n0:=8) (QS zX) (by omega) (fun s hs=>Q3 (QS zX) 4 G _ hrd) (fun s hs=>qlr _) ?_ (QQ8 l m hl) (s0:=0) (Nat.zero_le _) ?_
 ·rintro s e J (⟨_,_,rfl⟩|⟨_,_,rfl⟩)<;>exact qlr _
 ·rintro e J (⟨rfl,h,rfl⟩|⟨rfl,h,rfl⟩)
  ·exact⟨_,List.mem_cons_self,h,rfl,rfl⟩
  ·exact⟨_,List.mem_cons_of_mem _ List.mem_cons_self,h,rfl,rfl⟩
def vI:WF ((Rw QG)×Jy×Unit):=fun|(l,(m,_))=>(decide (l.n≤1000),.int false .i64 (KP (QP (Kk m l) l.n 0)),[])
def QHm:FC:=wFC vI
theorem QRk(l:(Rw QG))(m:Jy):Kd (mkE Try.prog V9) { hnd (mkE Try.prog V9) 1 with loop:=QAm l m } Try.f90 (QU.vals 0 ((l,m,()):(Rw QG)×Jy×Unit)) (QU.blks 0 ((l,m,()):(Rw QG)×Jy×Unit)) 8 =
  QC.ask ((0:Nat)=(0:Nat)) (QC.ask (l.n=l.n) (QC.ask (Cap.of (0:Nat)=Cap.of (0:Nat)) (QC.ask (Fn.func (71:Nat)=Fn.func (71:Nat)) (QC.ask ((0:Nat)=(0
  : Nat)) (QC.ask ((0:Nat)=(0:Nat)) (QC.ask ((↑l.n:Int)=(↑l.n:Int)) (QC.ask ((0:Int)=(0:Int)) (QC.ask (l.n≤l.n) (QC.ask (QD (28:Nat) l.n (fun i=>
  QA.enc (l.get i)) fun i=>QA.enc (l.get i)) (QC.ask (m.x.length=m.x.length) (QC.ask (m.x.slack=m.x.slack) (QC.ask (m.x.loose=m.x.loose) (QC.ask (m.x.damp.lo =
  m.x.damp.lo) (QC.ask (m.x.damp.hi=m.x.damp.hi) (QC.both (QC.asm ((QP (Kk m l) l.n (0:Nat)).isSome=true) (QC.all (fun(g0:Nat→Value)=>QC.leaf (AV.int
  false i64 (KP (QP (Kk m l) l.n (0:Nat)))) ([])))) (QC.asm (QP (Kk m l) l.n (0:Nat)=none) (QC.all (fun(g1:Nat→Value)=>QC.leaf (AV.int true
  i64 (-1:Int)) ([]))))))))))))))))))):=by kernel_rfl
theorem QUV:JN (mkE Try.prog V9) (Qr Try.f90) 8 vI (fun x_=>{ hnd (mkE Try.prog V9) 1 with loop:=QAm x_.1 x_.2.1 }):=by
 refine⟨?_⟩;rintro⟨l,⟨m,⟨⟩⟩⟩ hp G h1 h2;exact QP9 l m (qdt hp) G h1 h2
theorem QTK:JM (mkE Try.prog V9) Try.f90 8 vI (fun x_=>{ hnd (mkE Try.prog V9) 1 with loop:=QAm x_.1 x_.2.1 }):=by
 refine⟨?_⟩;rintro⟨l,⟨m,⟨⟩⟩⟩ hp;refine⟨⟨rfl,by simp[vI],rfl⟩,⟨?_⟩⟩
 rw[QRk l m];simp only[vI]at hp
 repeat' first|refine Qc (by with_reducible rfl) ?_|refine Qc (qlr _) ?_|refine Qc (qRr) ?_|refine Qc (show _=_ from rfl) ?_
 refine YE (KY fun h=>KX fun g => ?_) (KY fun h=>KX fun g => ?_)
 ·exact K7 ⟨rfl,rfl⟩ rfl
 ·exact K7 ⟨rfl,by show(-1:Int)=KP (QP (Kk m l) l.n 0);rw[h];rfl⟩ rfl
theorem QWJ:QQ Try.prog 90 QHm:=
 Jc (QS zX) Try.func90 (by kernel_rfl) (by kernel_rfl) (by decide) QUV QTK
def ZK:Tab:=Qb V9 90 QHm
theorem QCf:QV ZK:=zX.add QWJ
def vl:WF ((Rw QG)×Jy×Unit):=fun|(l,(m,_))=>(decide (l.n≤1000),.bool false (decide (KP (QP (Kk m l) l.n 0)≥0)),[])
def QKD:FC:=wFC vl
theorem QQN(l:(Rw QG))(m:Jy):Kd (mkE Try.prog ZK) (hnd (mkE Try.prog ZK) 0) Try.f70 (QU.vals 0 ((l,m,()):(Rw QG)×Jy×Unit)) (QU.blks 0 ((l,m,()):(Rw QG)×Jy×Unit)) 8 =
  QC.need (decide (l.n≤l.n)&&(true&&true)&&decide (l.n≤(1000:Nat))) (QC.leaf (AV.bool false (decide (KP (QP (Kk m l) l.n (0:Nat))≥(0:Int)))) ([])):=by kernel_rfl
theorem QQO:JN (mkE Try.prog ZK) (Qr Try.f70) 8 vl (fun x_=>(hnd (mkE Try.prog ZK) 0)):=by
 refine⟨?_⟩;rintro⟨l,⟨m,⟨⟩⟩⟩ hp G h1 h2;exact Q3 (QS QCf) 0 G _ h1
theorem QWO:JM (mkE Try.prog ZK) Try.f70 8 vl (fun x_=>(hnd (mkE Try.prog ZK) 0)):=by
 refine⟨?_⟩;rintro⟨l,⟨m,⟨⟩⟩⟩ hp;refine⟨⟨rfl,by simp[vl],rfl⟩,⟨?_⟩⟩
 rw[QQN l m];simp only[vl]at hp;exact QF (by simpa using hp) (K7 rfl rfl)
theorem QRS:QQ Try.prog 70 QKD:=
 Jc (QS QCf) Try.func70 (by kernel_rfl) (by kernel_rfl) (by decide) QQO QWO
def QAQ:Tab:=Qb ZK 70 QKD
theorem QMj:QV QAQ:=QCf.add QRS
def Jm(l:Rw QG):Bool:=(QP (Kk ⟨p⟩ l) l.n 0).isNone
def QFi:Int×Int×Int×Unit→Bool×AV:=fun|(n,(a,(b,_)))=>(true,.bool false (QY n a b))
def QLE:FC:=Q5 (Q6 QFi)
theorem QOH(n:Int)(a:Int)(b:Int):Q2 (mkE Try.prog QAQ) (hnd (mkE Try.prog QAQ) 2) false Try.f66 (Qm.enc ((n,a,b,()):Int×Int×Int×Unit)) [] 0 =
  QC.br (decide (a≤n)) (QC.leaf (AV.bool false (decide (n≤b))) ([])) (QC.leaf (AV.bool true false) ([])):=by kernel_rfl
theorem QVz:QQ Try.prog 66 QLE:=by
 refine KC QMj 2 Try.func66 (by kernel_rfl) (by kernel_rfl) ?_
 rintro⟨n,a,b,⟨⟩⟩ hp;rw[QOH n a b];simp only[QFi,QC.den,AV.same,AV.sameL,and_true,true_and]at hp ⊢
 (repeat' (first|(refine And.intro ?_ ?_)|(intro _)))<;>simp_all [QY]<;>omega
def Zb:Tab:=Qb QAQ 66 QLE
theorem QCg:QV Zb:=QMj.add QVz
def vS:WF (Qk×(Rw QG)×Unit):=fun|(p,(l,_))=>(decide (l.n≤1000),.bool false (Jm p l),[])
def QKO:FC:=wFC vS
theorem QR9(l:(Rw QG)):Kd (mkE Try.prog Zb) (hnd (mkE Try.prog Zb) 0) Try.f42 (QU.vals 0 ((p,l,()):Qk×(Rw QG)×Unit)) (QU.blks 0 ((p,l,()):Qk×(Rw QG)×Unit)) 8 =
  QC.need (decide (l.n≤l.n)&&(true&&true)&&decide (l.n≤(1000:Nat))) (QC.leaf (AV.bool false !decide (KP (QP (Kk (FnC.mk p) l) l.n (0:Nat))≥(0:Int)))
  ([])):=by kernel_rfl
theorem QSp:JN (mkE Try.prog Zb) (Qr Try.f42) 8 vS (fun x_=>(hnd (mkE Try.prog Zb) 0)):=by
 refine⟨?_⟩;rintro⟨p,⟨l,⟨⟩⟩⟩ hp G h1 h2;exact Q3 (QS QCg) 0 G _ h1
theorem QWb:JM (mkE Try.prog Zb) Try.f42 8 vS (fun x_=>(hnd (mkE Try.prog Zb) 0)):=by
 refine⟨?_⟩;rintro⟨p,⟨l,⟨⟩⟩⟩ hp;refine⟨⟨rfl,by simp[vS],rfl⟩,⟨?_⟩⟩
 rw[QR9 p l];simp only[vS]at hp;exact QF (by simpa using hp) (K7 (QEI _) rfl)
theorem QTk:QQ Try.prog 42 QKO:=
 Jc (QS QCg) Try.func42 (by kernel_rfl) (by kernel_rfl) (by decide) QSp QWb
def ZU:Tab:=Qb Zb 42 QKO
theorem QBF:QV ZU:=QCg.add QTk
def Puz.okN(d:Puz):Bool:=QY (d.ps.n:Int) 1 9&&(QY d.wide 1 d.ps.n&&(QY d.high 1 d.ps.n&&i64.wrap (d.wide*d.high)==(d.ps.n:Int)))
def Puz.ok(d:Puz):Bool:=d.okN&&Jm d.play d.ps
def Wr:WF (Puz×Unit):=fun|(d,_)=>(decide (d.ps.n≤1000),.bool false d.ok,[])
def QG8:FC:=wFC Wr
theorem QQT(d:Puz):Kd (mkE Try.prog ZU) (hnd (mkE Try.prog ZU) 0) Try.f37 (QU.vals 0 ((d,()):Puz×Unit)) (QU.blks 0 ((d,()):Puz×Unit)) 8 =
  QC.need (true) (QC.br (QY (↑d.ps.n:Int) (1:Int) (9:Int)) (QC.need (true) (QC.br (QY d.wide (1:Int) (↑d.ps.n:Int)) (QC.need (true) (QC.br (QY d.high
  (1:Int) (↑d.ps.n:Int)) (QC.br (i64.wrap (d.wide*d.high)==(↑d.ps.n:Int)) (QC.need (true&&(decide (d.ps.n≤d.ps.n)&&true)&&decide (d.ps.n≤(1000:Nat)))
  (QC.leaf (AV.bool false (Jm d.play d.ps)) ([]))) (QC.leaf (AV.bool true false) ([]))) (QC.leaf (AV.bool true false) ([])))) (QC.leaf (AV.bool true false) ([]))))
  (QC.leaf (AV.bool true false) ([]))):=by kernel_rfl
theorem QPP:JN (mkE Try.prog ZU) (Qr Try.f37) 8 Wr (fun x_=>(hnd (mkE Try.prog ZU) 0)):=by
 refine⟨?_⟩;rintro⟨d,⟨⟩⟩ hp G h1 h2;exact Q3 (QS QBF) 0 G _ h1
theorem QPk:JM (mkE Try.prog ZU) Try.f37 8 Wr (fun x_=>(hnd (mkE Try.prog ZU) 0)):=by
 refine⟨?_⟩;rintro⟨d,⟨⟩⟩ hp;refine⟨⟨rfl,by simp[Wr],rfl⟩,⟨?_⟩⟩
 rw[QQT d];simp only[Wr]at hp;have no:d.okN=false→(QC.leaf (AV.bool true false) []).den (XX 8 (Wr (d,())).2.1 (Wr (d,())).2.2):=fun h=>K7 (show false=d.ok by rw[Puz.ok,h];rfl) rfl
 refine QF rfl (QI (fun h1=>QF rfl (QI (fun h2=>QF rfl (QI (fun h3=>QI (fun h4=>QF (by simpa using hp) (K7 (show Jm d.play d.ps=d.ok by rw[Puz.ok,Puz.okN,h1,h2,h3,h4];rfl) rfl)) (fun h4=>no (by rw[Puz.okN,h1,h2,h3,h4];rfl))) (fun h3=>no (by rw[Puz.okN,h1,h2,h3];rfl)))) (fun h2=>no (by rw[Puz.okN,h1,h2];rfl)))) (fun h1=>no (by rw[Puz.okN,h1];rfl)))
theorem QP1:QQ Try.prog 37 QG8:=
 Jc (QS QBF) Try.func37 (by kernel_rfl) (by kernel_rfl) (by decide) QPP QPk
def GJ:Tab:=Qb ZU 37 QG8
theorem QMm:QV GJ:=QBF.add QP1
def QAt(s:Int):Int:=(s+2).tmod 4
def QE4:Int×Unit→Bool×AV:=fun|(s,_)=>(decide (0≤s∧s≤3),.int false .i64 (QAt s))
def QJV:FC:=Q5 (Q6 QE4)
theorem QPr(s:Int):Q2 (mkE Try.prog GJ) (hnd (mkE Try.prog GJ) 2) false Try.f39 (Qm.enc ((s,()):Int×Unit)) [] 0 =
  QC.leaf (AV.int false i64 ((i64.wrap (s+(2:Int))).tmod (4:Int))) ([]):=by kernel_rfl
theorem QNY:QQ Try.prog 39 QJV:=by
 refine KC QMm 2 Try.func39 (by kernel_rfl) (by kernel_rfl) ?_
 rintro⟨s,⟨⟩⟩ hp;rw[QPr s];simp only[QE4,QC.den,AV.same,AV.sameL,and_true,true_and]at hp ⊢;have hp:=qdt hp;show(i64.wrap (s+2)).tmod 4=QAt s;rw[w64 (by omega) (by omega)];rfl
def ZD:Tab:=Qb GJ 39 QJV
theorem QBb:QV ZD:=QMm.add QNY
def QN(wide high cell side:Int):Int:=
 cond (side==0&&decide (0<cell.tdiv wide)) (cell-wide) (cond (side==1&&decide (cell.tmod wide<wide-1)) (cell+1)
  (cond (side==2&&decide (cell.tdiv wide<high-1)) (cell+wide) (cond (side==3&&decide (0<cell.tmod wide)) (cell-1) (-1))))
def WJ:WF (Puz×Int×Int×Unit):=fun|(d,(c,(s,_)))=>(decide ((1≤d.wide∧d.wide≤100)∧(1≤d.high∧d.high≤100)∧(0≤c∧c≤100)),.int false .i64 (QN d.wide d.high c s),[])
def QHB:FC:=wFC WJ
theorem QQV(d:Puz)(c:Int)(s:Int):Kd (mkE Try.prog ZD) (hnd (mkE Try.prog ZD) 0) Try.f38 (QU.vals 0 ((d,c,s,()):Puz×Int×Int×Unit)) (QU.blks 0 ((d,c,s,()):Puz×Int×Int ×
  Unit)) 8 = .need (!decide (d.wide=0)) (.need (!decide (d.wide=0)) (.br (s==0) (.br (decide (i64.wrap (c.tdiv d.wide)>0)) (.leaf (.int false .i64 (i64.wrap (c
  - d.wide))) ([])) (.br (s==1) (.br (decide (c.tmod d.wide<i64.wrap (d.wide-1))) (.leaf (.int false .i64 (i64.wrap (c+1))) ([])) (.br (s==2) (.br (decide
  (i64.wrap (c.tdiv d.wide)<i64.wrap (d.high-1))) (.leaf (.int false .i64 (i64.wrap (c+d.wide))) ([])) (.br (s==3) (.br (decide (c.tmod d.wide>0))
  (.leaf (.int false .i64 (i64.wrap (c-1))) ([])) (.leaf (.int true .i64 (-1)) ([]))) (.leaf (.int true .i64 (-1)) ([])))) (.br (s==3) (.br (decide (c.tmod d.wide>0))
  (.leaf (.int false .i64 (i64.wrap (c-1))) ([])) (.leaf (.int true .i64 (-1)) ([]))) (.leaf (.int true .i64 (-1)) ([]))))) (.br (s==2) (.br (decide (i64.wrap
  (c.tdiv d.wide)<i64.wrap (d.high-1))) (.leaf (.int false .i64 (i64.wrap (c+d.wide))) ([])) (.br (s==3) (.br (decide (c.tmod d.wide>0)) (.leaf (.int false
  .i64 (i64.wrap (c-1))) ([])) (.leaf (.int true .i64 (-1)) ([]))) (.leaf (.int true .i64 (-1)) ([])))) (.br (s==3) (.br (decide (c.tmod d.wide>0)) (.leaf (.int false
  .i64 (i64.wrap (c-1))) ([])) (.leaf (.int true .i64 (-1)) ([]))) (.leaf (.int true .i64 (-1)) ([])))))) (.br (s==1) (.br (decide (c.tmod d.wide<i64.wrap
  (d.wide-1))) (.leaf (.int false .i64 (i64.wrap (c+1))) ([])) (.br (s==2) (.br (decide (i64.wrap (c.tdiv d.wide)<i64.wrap (d.high-1))) (.leaf (.int
  false .i64 (i64.wrap (c+d.wide))) ([])) (.br (s==3) (.br (decide (c.tmod d.wide>0)) (.leaf (.int false .i64 (i64.wrap (c-1))) ([])) (.leaf (.int true .i64
  (-1)) ([]))) (.leaf (.int true .i64 (-1)) ([])))) (.br (s==3) (.br (decide (c.tmod d.wide>0)) (.leaf (.int false .i64 (i64.wrap (c-1))) ([])) (.leaf (.int true .i64
  (-1)) ([]))) (.leaf (.int true .i64 (-1)) ([]))))) (.br (s==2) (.br (decide (i64.wrap (c.tdiv d.wide)<i64.wrap (d.high-1))) (.leaf (.int false .i64
  (i64.wrap (c+d.wide))) ([])) (.br (s==3) (.br (decide (c.tmod d.wide>0)) (.leaf (.int false .i64 (i64.wrap (c-1))) ([])) (.leaf (.int true .i64 (-1)) ([])))
  (.leaf (.int true .i64 (-1)) ([])))) (.br (s==3) (.br (decide (c.tmod d.wide>0)) (.leaf (.int false .i64 (i64.wrap (c-1))) ([])) (.leaf (.int true .i64 (-1)) ([])))
  (.leaf (.int true .i64 (-1)) ([]))))))):=by kernel_rfl
theorem QS3:JN (mkE Try.prog ZD) (Qr Try.f38) 8 WJ (fun x_=>(hnd (mkE Try.prog ZD) 0)):=by
 refine⟨?_⟩;rintro⟨d,⟨c,⟨s,⟨⟩⟩⟩⟩ hp G h1 h2;exact Q3 (QS QBb) 0 G _ h1
theorem QO7:JM (mkE Try.prog ZD) Try.f38 8 WJ (fun x_=>(hnd (mkE Try.prog ZD) 0)):=by
 refine⟨?_⟩;rintro⟨d,⟨c,⟨s,⟨⟩⟩⟩⟩ hp;refine⟨⟨rfl,by simp[WJ],rfl⟩,⟨?_⟩⟩
 rw[QQV d c s];simp only[WJ]at hp;obtain⟨⟨w1,w2⟩,⟨h1,h2⟩,c1,c2⟩:=qdt hp;have q0:0≤c.tdiv d.wide:=Int.tdiv_nonneg c1 (by omega)
 have q1:c.tdiv d.wide≤c:=by rw[Int.tdiv_eq_ediv_of_nonneg c1];exact Int.ediv_le_self _ c1
 have m0:0≤c.tmod d.wide:=Int.tmod_nonneg _ c1;have m1:c.tmod d.wide<d.wide:=Int.tmod_lt_of_pos _ (by omega)
 have e1:i64.wrap (c.tdiv d.wide)=c.tdiv d.wide:=w64 (by omega) (by omega)
 have e2:i64.wrap (c-d.wide)=c-d.wide:=w64 (by omega) (by omega)
 have e3:i64.wrap (d.wide-1)=d.wide-1:=w64 (by omega) (by omega)
 have e4:i64.wrap (c+1)=c+1:=w64 (by omega) (by omega)
 have e5:i64.wrap (d.high-1)=d.high-1:=w64 (by omega) (by omega)
 have e6:i64.wrap (c+d.wide)=c+d.wide:=w64 (by omega) (by omega)
 have e7:i64.wrap (c-1)=c-1:=w64 (by omega) (by omega)
 have dz:(!decide (d.wide=0))=true:=by simp;omega
 rw[e1,e2,e3,e4,e5,e6,e7];refine QF dz (QF dz ?_);have fin:∀ v:AV,v.same (.int false .i64 (QN d.wide d.high c s))→(QC.leaf v []).den (XX 8 (WJ (d,c,s,())).2.1 (WJ (d,c,s,())).2.2):=fun v h=>K7 h rfl
 repeat' refine QI (fun _ => ?_) (fun _ => ?_)
 all_goals refine fin _ ?_
 all_goals simp only[AV.same,QN,true_and]
 all_goals grind
theorem QRC:QQ Try.prog 38 QHB:=
 Jc (QS QBb) Try.func38 (by kernel_rfl) (by kernel_rfl) (by decide) QS3 QO7
def Xx:Tab:=Qb ZD 38 QHB
theorem j7:QV Xx:=QBb.add QRC
end Go.Proofs.Ytbpffdkemeoajaa
