/- - -/
import Derived.Test.YtbpffdkemeoajaaMwo
import Derived.Test.YtbpffdkemeoajaaMwq
open Go.IntKind (i64)
set_option maxRecDepth 100000
namespace Go.Proofs.Ytbpffdkemeoajaa
open Go.SX
def QW(fn:Func)(k:Nat):Code:=match (Kz (Qo fn))[k]? with
 | some (.loop b)=>b
 | _ => .skip
instance : QA Edge where
  ks := [.int .i64,.int .i64,.int .i64,.int .i64,.int .i64,.int .i64,.int .i64]
  enc e j := match j with
    | 0 => e.kind
    | 1 => e.at_.lo
    | 2 => e.at_.hi
    | 3 => e.wide.lo
    | 4 => e.wide.hi
    | 5 => e.deep.lo
    | _ => e.deep.hi
  dec f := ⟨f 0,⟨f 1,f 2⟩,⟨f 3,f 4⟩,⟨f 5,f 6⟩⟩
  ok _ := rfl
structure FnK (g:Nat) where
 u:Unit
instance (g : Nat) : Enc (FnK g) where
  enc _ := .fn (.func g) []
  dec v := match v with
    | .fn (.func g') [] => (match Nat.beq g' g with | true => some ⟨()⟩ | false => none)
    | _ => none
  ok v x h := by
    split at h <;> (try (cases h; done))
    split at h <;> (try (cases h; done))
    rename_i hg;have := Nat.eq_of_beq_eq_true hg;subst this;exact⟨fun _ => rfl,rfl⟩
def QQ(p:Nat→Bool):Nat→Nat→Option Nat
 | 0,_=>none
 | m+1,k=>match p k with
  | true=>some k
  | false=>QQ p m (k+1)
def KY:Option Nat→Int
 | some i=>i
 | none => -1
def YK(p:Nat→Bool)(n:Nat):Bool:=(QQ (fun i => !p i) n 0).isNone
theorem Hm{p:Nat→Bool}:∀{m k:Nat},QQ p m k=none→∀ i,k≤i→i<k+m→p i=false
 | 0,k,_,i,h1,h2=>by omega
 | m+1,k,h,i,h1,h2=>by
  simp only[QQ]at h;split at h
  ·cases h
  ·rename_i hk;rcases Nat.eq_or_lt_of_le h1 with rfl|hlt
   ·exact hk
   ·exact Hm h i hlt (by omega)
theorem QXd{p:Nat→Bool}{n:Nat}(h:YK p n=true){i:Nat}(hi:i<n):p i=true:=by
 unfold YK at h;rw[Option.isNone_iff_eq_none]at h;have:=Hm h i (Nat.zero_le _) (by omega)
 simpa using this
theorem Hf{p:Nat→Bool}:∀{m k:Nat},(∀ i,k≤i→i<k+m→p i=false)→QQ p m k=none
 | 0,_,_=>rfl
 | m+1,k,h=>by
  simp only[QQ];rw[h k (qlr _) (by omega)]
  exact Hf fun i h1 h2=>h i (by omega) (by omega)
def QHW:Edge×Unit→Bool×AV:=fun|(s,_)=>(true,.bool false (!s.ok))
def QLt:FC:=Q2 (Q3 QHW)
variable (p:Qn)(s:Edge)(k:Nat)(l:Rw Edge)(least:Int)(o:List Int)
theorem QWq:Qy (mkE Try.prog QCD) (hnd (mkE Try.prog QCD) 0) false Try.f84 (Qp.enc ((s,()):Edge×Unit)) [] 0 =
  QD.need (true) (QD.leaf (AV.bool false !s.ok) ([])):=by kernel_rfl
theorem QPl:QO Try.prog 84 QLt:=by
 refine KC QHt 0 Try.func84 (by kernel_rfl) (by kernel_rfl) ?_
 rintro⟨s,⟨⟩⟩ hp;rw[QWq s];simp only[QHW,QD.den,AV.same,AV.sameL,and_true,true_and]at hp ⊢
def YW:Tab:=Qd QCD 84 QLt
theorem vr:QZ YW:=QHt.add QPl
def Jf(i:Nat):Bool := !(l.get i).ok
def QAV(k:Nat):JSt:=⟨19,[(0,.slz 0 0 l.n (.of 0)),(1,.fn (.func 84) []),(7,.int false .i64 l.n),(8,.int false .i64 k)],Qw.blk 0 l,8⟩
def jl:Ex→List Nat
 | .normal=>[0,1,7,8]
 | .exit _=>[]
 | .ret=>[4]
theorem QXQ(k:Nat)(g:Nat→Value):exec (mkE Try.prog YW) (hnd (mkE Try.prog YW) 0) (QW Try.f96 0) (JSt.inst (QAV l k) g) (KF [] jl) =
  QD.br (decide ((↑k:Int)<(↑l.n:Int))) (QD.need (decide ((0:Int)≤(↑k:Int)∧(↑k:Int)<(↑l.n:Int))&&decide (l.n≤l.n)) (QD.need (decide (k<l.n)) (QD.need
  (true) (QD.br (!(l.get k).ok) (QD.leaf (AV.tup [AV.nili,AV.ptr (19:Nat) (0:Nat) (0:Nat),AV.int false i64 (↑k:Int)]) ([])) (QD.leaf (AV.tup [AV.nilp,AV.ptr
  (19:Nat) (0:Nat) (0:Nat),AV.slz (0:Nat) (0:Nat) l.n (Cap.of (0:Nat)),AV.fn (Fn.func (84:Nat)) [],AV.int false i64 (↑l.n:Int),AV.int false i64
  (i64.wrap ((↑k:Int)+(1:Int)))]) ([((0:Nat),Blk.frz [CK.int i64,CK.int i64,CK.int i64,CK.int i64,CK.int i64,CK.int
  i64,CK.int i64] l.n fun i=>QA.enc (l.get i))])))))) (QD.leaf (AV.tup [AV.ptr (0:Nat) (0:Nat) (0:Nat),AV.ptr (19:Nat) (0:Nat) (0:Nat)]) ([])):=by kernel_rfl
def QH1(k:Nat)(e:Ex)(J:JSt):Prop:=(e = .ret∧(QQ (Jf l) (l.n-k) k).isSome=true∧J=⟨19,[(4,.int false .i64 (KY (QQ (Jf l) (l.n-k) k)))],[],8⟩)∨(e = .exit 0∧QQ (Jf l) (l.n-k) k=none∧J=⟨19,[],[],8⟩)
theorem QZQ(k:Nat)(i:Int):QL 8 [.slz 0 0 l.n cO,.fn (.func 84) [],vi l.n,vi i] (Qw.blk 0 l) (QAV l k)=(
  some [(0:Nat)=(0:Nat),l.n=l.n,Cap.of (0:Nat)=Cap.of (0:Nat),Fn.func (84:FuncId)=Fn.func (84:FuncId),(↑l.n:Int)=(↑l.n:Int),i=(↑k:Int),l.n≤l.n,
  QC (7:Nat) l.n (fun i=>QA.enc (l.get i)) fun i=>QA.enc (l.get i)]):=by kernel_rfl
theorem Wl(i j:Int):QL 8 [vi i] [] ⟨19,[(4,vi j)],[],8⟩=(
  some [i=j]):=by kernel_rfl
theorem QFA :QL 8 [] [] ⟨19,[],[],8⟩=(
  some []):=by kernel_rfl
theorem QQv(hl:l.n≤1000):K0 (QAV l) (fun k=>k≤l.n) (fun k=>l.n-k) (QH1 l) 8 jl [] (mkE Try.prog YW) (fun _=>hnd (mkE Try.prog YW) 0) (QW Try.f96 0):=by
 refine⟨fun k g hk=>⟨ze (QXQ l k g) ?_⟩⟩;refine QI (fun h => ?_) (fun h => ?_)
 ·have h:k<l.n:=by have:=qdt h;omega
  obtain⟨m,hm⟩:∃ m,l.n-k=m+1:=⟨l.n-k-1,by omega⟩
  have hm':l.n-(k+1)=m:=by omega
  refine QF (by simp;omega) (QF (by simp;omega) (QF rfl (QI (fun hb => ?_) (fun hb => ?_))))
  ·have hf:QQ (Jf l) (l.n-k) k=some k:=by rw[hm,QQ];unfold Jf;rw[hb]
   exact⟨_,.inl ⟨rfl,by rw[hf];rfl,rfl⟩,rfl,rfl,_,Wl _ _,by rw[hf];exact⟨rfl,trivial⟩⟩
  ·have hf:QQ (Jf l) (l.n-k) k=QQ (Jf l) (l.n-(k+1)) (k+1):=by rw[hm,hm',QQ];unfold Jf;rw[hb]
   refine⟨k+1,by omega,by show l.n-(k+1)<l.n-k;omega,fun e J h=>by unfold QH1 at h ⊢;rw[hf];exact h,rfl,rfl,_,QZQ _ _ _,?_⟩
   exact⟨rfl,rfl,rfl,rfl,rfl,(w64 (by omega) (by omega)).trans (by omega),qlr _,qRr,trivial⟩
 ·have h:l.n≤k:=by have:=of_decide_eq_false h;omega
  have hf:QQ (Jf l) (l.n-k) k=none:=by rw[show l.n-k=0 by omega];rfl
  exact⟨_,.inr ⟨rfl,hf,rfl⟩,rfl,rfl,_,QFA,trivial⟩
def QQf:List (Prop×Ex×JSt):=[((QQ (Jf l) l.n 0).isSome=true,.ret,⟨19,[(4,.int false .i64 (KY (QQ (Jf l) l.n 0)))],[],8⟩),(QQ (Jf l) l.n 0=none,.exit 0,⟨19,[],[],8⟩)]
abbrev HE(P:Program)(l:Rw Edge):Hnd:={ hnd (mkE P YW) 1 with loop:=fun _=>Q7 8 [] (QAV l 0) (QQf l) }
theorem QRv(hl:l.n≤1000)(G:Ctx)(hrd:G.rd=none)(hG:G.n=8):Q1 (mkE Try.prog YW) G (HE Try.prog l) (Qo Try.f96):=by
 refine JF (body:=QW Try.f96 0) (QP vr) hrd (by kernel_rfl) ?_
 refine JG (n0:=8) (QP vr) (by omega) (fun s hs=>Qq (QP vr) 0 G _ hrd) (fun s hs=>qlr _) ?_ (QQv l hl) (s0:=0) (Nat.zero_le _) ?_
 ·rintro s e J (⟨_,_,rfl⟩|⟨_,_,rfl⟩)<;>exact qlr _
 ·rintro e J (⟨rfl,h,rfl⟩|⟨rfl,h,rfl⟩)
  ·exact⟨_,List.mem_cons_self,h,rfl,rfl⟩
  ·exact⟨_,List.mem_cons_of_mem _ List.mem_cons_self,h,rfl,rfl⟩
theorem QYZ(x:FnK 84):KR (mkE Try.prog YW) (HE Try.prog l) Try.f96 (QX.vals 0 (l,x,())) (QX.blks 0 (l,x,())) 8 =
  QD.ask ((0:Nat)=(0:Nat)) (QD.ask (l.n=l.n) (QD.ask (Cap.of (0:Nat)=Cap.of (0:Nat)) (QD.ask (Fn.func (84:Nat)=Fn.func (84:FuncId)) (QD.ask ((↑l.n:Int)
  = (↑l.n:Int)) (QD.ask ((0:Int)=(0:Int)) (QD.ask (l.n≤l.n) (QD.ask (QC (7:Nat) l.n (fun i=>QA.enc (l.get i)) fun i=>QA.enc (l.get i)) (QD.both
  (QD.asm ((QQ (Jf l) l.n (0:Nat)).isSome=true) (QD.all (fun(g0:Nat→Value)=>QD.leaf (AV.int false i64 (KY (QQ (Jf l) l.n (0:Nat)))) ([]))))
  (QD.asm (QQ (Jf l) l.n (0:Nat)=none) (QD.all (fun(g1:Nat→Value)=>QD.leaf (AV.int true i64 (-1:Int)) ([])))))))))))):=by kernel_rfl
def HP:WF (Rw Edge×FnK 84×Unit):=fun x=>(decide (x.1.n≤1000),.int false .i64 (KY (QQ (Jf x.1) x.1.n 0)),[])
def QHI:FC:=wFC HP
theorem QYa:JN (mkE Try.prog YW) (Qo Try.f96) 8 HP (fun x=>HE Try.prog x.1):=
 ⟨fun x hx G h1 h2=>QRv x.1 (qdt hx) G h1 h2⟩
theorem QW3:JM (mkE Try.prog YW) Try.f96 8 HP (fun x=>HE Try.prog x.1):=by
 refine⟨?_⟩;rintro⟨l,x,⟨⟩⟩ hp;refine⟨⟨rfl,by simp[HP],rfl⟩,⟨?_⟩⟩
 rw[QYZ l x];refine QR rfl (QR rfl (QR rfl (QR rfl (QR rfl (QR rfl (QR (qlr _) (QR (qRr) (Xf (KA fun h=>Q6 fun g => ?_) (KA fun h=>Q6 fun g => ?_)))))))))
 ·exact Kk ⟨rfl,rfl⟩ rfl
 ·exact Kk ⟨rfl,by show(-1:Int)=KY (QQ (Jf l) l.n 0);rw[h];rfl⟩ rfl
theorem QXT:QO Try.prog 96 QHI:=
 JX (QP vr) Try.func96 (by kernel_rfl) (by kernel_rfl) (by decide) QYa QW3
def Zm:Tab:=Qd YW 96 QHI
theorem QDe:QZ Zm:=vr.add QXT
def Gf:WF ((Rw Edge)×(FnK 84)×Unit):=fun|(l,(x,_))=>(decide (l.n≤1000),.bool false (decide (KY (QQ (Jf l) l.n 0)≥0)),[])
def QLp:FC:=wFC Gf
theorem QZC(l:(Rw Edge))(x:(FnK 84)):KR (mkE Try.prog Zm) (hnd (mkE Try.prog Zm) 0) Try.f83 (QX.vals 0 ((l,x,()):(Rw Edge)×(FnK 84)×Unit)) (QX.blks 0 ((l,x,()):(Rw Edge)×(FnK 84)×Unit)) 8 =
  QD.need (decide (l.n≤l.n)&&(true&&true)&&decide (l.n≤(1000:Nat))) (QD.leaf (AV.bool false (decide (KY (QQ (Jf l) l.n (0:Nat))≥(0:Int)))) ([])):=by kernel_rfl
theorem QXD:JN (mkE Try.prog Zm) (Qo Try.f83) 8 Gf (fun x_=>(hnd (mkE Try.prog Zm) 0)):=by
 refine⟨?_⟩;rintro⟨l,⟨x,⟨⟩⟩⟩ hp G h1 h2;exact Qq (QP QDe) 0 G _ h1
theorem QQG:JM (mkE Try.prog Zm) Try.f83 8 Gf (fun x_=>(hnd (mkE Try.prog Zm) 0)):=by
 refine⟨?_⟩;rintro⟨l,⟨x,⟨⟩⟩⟩ hp;refine⟨⟨rfl,by simp[Gf],rfl⟩,⟨?_⟩⟩
 rw[QZC l x];simp only[Gf]at hp;exact QF (by simpa using hp) (Kk rfl rfl)
theorem QR2:QO Try.prog 83 QLp:=
 JX (QP QDe) Try.func83 (by kernel_rfl) (by kernel_rfl) (by decide) QXD QQG
def Z6:Tab:=Qd Zm 83 QLp
theorem QDY:QZ Z6:=QDe.add QR2
theorem QEz:∀(o:Option Nat),(!decide (KY o≥0))=o.isNone
 | some i=>by simp[KY]
 | none=>rfl
def zm:WF ((Rw Edge)×Unit):=fun|(l,_)=>(decide (l.n≤1000),.bool false (YK (fun i=>(l.get i).ok) l.n),[])
def QJR:FC:=wFC zm
theorem QXk(l:(Rw Edge)):KR (mkE Try.prog Z6) (hnd (mkE Try.prog Z6) 0) Try.f60 (QX.vals 0 ((l,()):(Rw Edge)×Unit)) (QX.blks 0 ((l,()):(Rw Edge)×Unit)) 8 =
  QD.need (decide (l.n≤l.n)&&(true&&true)&&decide (l.n≤(1000:Nat))) (QD.leaf (AV.bool false !decide (KY (QQ (Jf l) l.n (0:Nat))≥(0:Int))) ([])):=by kernel_rfl
theorem QSj:JN (mkE Try.prog Z6) (Qo Try.f60) 8 zm (fun x_=>(hnd (mkE Try.prog Z6) 0)):=by
 refine⟨?_⟩;rintro⟨l,⟨⟩⟩ hp G h1 h2;exact Qq (QP QDY) 0 G _ h1
theorem QTu:JM (mkE Try.prog Z6) Try.f60 8 zm (fun x_=>(hnd (mkE Try.prog Z6) 0)):=by
 refine⟨?_⟩;rintro⟨l,⟨⟩⟩ hp;refine⟨⟨rfl,by simp[zm],rfl⟩,⟨?_⟩⟩
 rw[QXk l];simp only[zm]at hp;exact QF (by simpa using hp) (Kk (QEz _) rfl)
theorem QSb:QO Try.prog 60 QJR:=
 JX (QP QDY) Try.func60 (by kernel_rfl) (by kernel_rfl) (by decide) QSj QTu
def XA:Tab:=Qd Z6 60 QJR
theorem Gz:QZ XA:=QDY.add QSb
def KN{α:Type}[QA α](ty k:Nat)(l:List α)(d:α):Nat×Blk:=(k,.rowz true ty (QA.ks α) l.length fun i=>QA.enc (l.getD i d))
def Kn(q:Nat→Bool):Nat→List Int
 | 0=>[]
 | k+1=>match q k with
  | true=>Kn q k++[(k:Int)]
  | false=>Kn q k
theorem QMA(q:Nat→Bool):∀ k,(Kn q k).length≤k
 | 0=>qlr _
 | k+1=>by
  have:=QMA q k;simp only[Kn];split<;>simp<;>omega
def K1(l:Rw Edge)(i:Nat):Bool:=decide (ZU p s (l.get i)≥least)
def Wh(l:Rw Edge)(o:List Int)(k:Int):JSt:=
 ⟨30,[(2,.int false .i64 least),(4,.ptr 8 0 0),(5,.ptr 16 0 0),(8,.slz 24 0 o.length (.of 0)),(11,.slz 3 0 l.n (.of 0)),(12,.int false .i64 l.n),(13,.int false .i64 k)],
  [(8,.cells 0 25 (Enc.enc p).cells),(16,.cells 0 30 (Enc.enc s).cells),KN 3 24 o 0]++Qw.blk 3 l,32⟩
def QOB:Ex→List Nat
 | .normal=>[2,4,5,8,11,12,13]
 | _=>[8]
noncomputable abbrev QMC:Nat×Blk:=
  (8,.cells 0 25 [vi p.length,vi p.slack,vi p.loose,vi p.damp.lo,vi p.damp.hi])
noncomputable abbrev QLE:Nat×Blk:=
  (16,.cells 0 30 [vi s.kind,vi s.at_.lo,vi s.at_.hi,vi s.wide.lo,vi s.wide.hi,vi s.deep.lo,.int
  false .i64 s.deep.hi])
noncomputable abbrev QG1:Nat×Blk:=
  (3,.frz [.int .i64,.int .i64,.int .i64,.int .i64,.int .i64,.int .i64,.int .i64] l.n fun i=>QA.enc (l.get i))
theorem QWt(l:Rw Edge)(o:List Int)(k:Nat)(g:Nat→Value):exec (mkE Try.prog XA) (hnd (mkE Try.prog XA) 0) (QW Try.f91 0) (JSt.inst (Wh p s least l o k) g) (KF [] QOB) = .br (decide ((k:Int)<(l.n:Int))) (.need
  (decide ((0:Int)≤(k:Int)∧(k:Int)<(l.n:Int))&&decide (l.n≤l.n)) (.need (decide (k<l.n)) (.need (okP p s (l.get k)) (.br (decide (ZU p s (l.get k)≥least))
  (.need (decide (o.length≤o.length)&&(true&&decide ((o.length+1+(o.length+1) / 4+192)*8≤281474976710656∧o.length+1≤9223372036854775807))) (.leaf (.tup [.nilp,
  .ptr 30 0 0,vi least,.ptr 8 0 0,.ptr 16 0 0,.slz 160 0 (o.length+1) cO,.slz 3 0 l.n cO,vi (l.n:Int),.int false .i64
  (i64.wrap ((k:Int)+1))]) ([(QMC p),(QLE s),(160,.rowz true 3 [.int .i64] (o.length+1) (Qa o.length (fun i=>QA.enc (o.getD i 0)) (QS [[vi (k
  : Int)]] 0))),(QG1 l)]))) (.leaf (.tup [.nilp,.ptr 30 0 0,vi least,.ptr 8 0 0,.ptr 16 0 0,.slz 24 0 o.length cO,.slz 3 0 l.n cO,.int false .i64
  (l.n:Int),vi (i64.wrap ((k:Int)+1))]) ([(QMC p),(QLE s),(24,.rowz true 3 [.int .i64] o.length fun i=>QA.enc (o.getD i 0)),(QG1 l)]))))))
  (.leaf (.tup [.ptr 0 0 0,.ptr 30 0 0,.slz 24 0 o.length cO]) ([(24,.rowz true 3 [.int .i64] o.length fun i=>QA.enc (o.getD i 0))])):=by kernel_rfl
theorem QWe(x:Int):QC 1 (o++[x]).length (Qa o.length (fun i=>QA.enc (o.getD i 0)) (QS [[AV.int false i64 x]] 0)) (fun i=>QA.enc ((o++[x]).getD i 0)):=by
 intro i hi;refine⟨?_,trivial⟩;rw[X6];rw[List.length_append,List.length_singleton]at hi;split
 ·rename_i h;show o.getD i 0=(o++[x]).getD i 0;rw[List.getD_eq_getElem?_getD,List.getD_eq_getElem?_getD,List.getElem?_append_left h]
 ·rename_i h;have:i=o.length:=by omega
  subst this;show x=(o++[x]).getD o.length 0;simp
theorem QQK(l:Rw Edge)(n:Nat)(g:Nat→Nat→Int)(i:Int)(o:List Int)(k:Int):QL 8 [vi least,.ptr 8 0 0,.ptr 16 0 0,.slz 24 0 n cO,.slz 3 0 l.n cO,vi l.n,vi i] ([(8,.cells 0 25 (Enc.enc p).cells),(16,.cells 0 30 (Enc.enc s).cells),(24,.rowz true 3 [.int .i64] n g)]++Qw.blk 3 l) (Wh p s least l o k)=(
  some [least=least,(0:Nat)=(0:Nat),(0:Nat)=(0:Nat),(0:Nat)=(0:Nat),(0:Nat)=(0:Nat),(0:Nat)=(0:Nat),n=o.length,Cap.of (0:Nat)=Cap.of (0 :
  Nat),(0:Nat)=(0:Nat),l.n=l.n,Cap.of (0:Nat)=Cap.of (0:Nat),(↑l.n:Int)=(↑l.n:Int),i=k,p.length=p.length,p.slack=p.slack,p.loose=p.loose,p.damp.lo
  = p.damp.lo,p.damp.hi=p.damp.hi,s.kind=s.kind,s.at_.lo=s.at_.lo,s.at_.hi=s.at_.hi,s.wide.lo=s.wide.lo,s.wide.hi=s.wide.hi,s.deep.lo=s.deep.lo,s.deep.hi =
  s.deep.hi,o.length≤n,QC (1:Nat) o.length g fun i=>QA.enc (o.getD i (0:Int)),l.n≤l.n,QC (7:Nat) l.n (fun i=>QA.enc (l.get i)) fun i=>QA.enc (l.get
  i)]):=by kernel_rfl
theorem QUu(l:Rw Edge)(n:Nat)(g:Nat→Nat→Int)(i:Int)(o:List Int)(k:Int):QL 8 [vi least,.ptr 8 0 0,.ptr 16 0 0,.slz 160 0 n cO,.slz 3 0 l.n cO,vi l.n,vi i] ([(8,.cells 0 25 (Enc.enc p).cells),(16,.cells 0 30 (Enc.enc s).cells),(160,.rowz true 3 [.int .i64] n g)]++Qw.blk 3 l) (Wh p s least l o k)=(
  some [least=least,(0:Nat)=(0:Nat),(0:Nat)=(0:Nat),(0:Nat)=(0:Nat),(0:Nat)=(0:Nat),(0:Nat)=(0:Nat),n=o.length,Cap.of (0:Nat)=Cap.of (0 :
  Nat),(0:Nat)=(0:Nat),l.n=l.n,Cap.of (0:Nat)=Cap.of (0:Nat),(↑l.n:Int)=(↑l.n:Int),i=k,p.length=p.length,p.slack=p.slack,p.loose=p.loose,p.damp.lo
  = p.damp.lo,p.damp.hi=p.damp.hi,s.kind=s.kind,s.at_.lo=s.at_.lo,s.at_.hi=s.at_.hi,s.wide.lo=s.wide.lo,s.wide.hi=s.wide.hi,s.deep.lo=s.deep.lo,s.deep.hi =
  s.deep.hi,o.length≤n,QC (1:Nat) o.length g fun i=>QA.enc (o.getD i (0:Int)),l.n≤l.n,QC (7:Nat) l.n (fun i=>QA.enc (l.get i)) fun i=>QA.enc (l.get
  i)]):=by kernel_rfl
def jO:JSt:=⟨30,[(8,.slz 24 0 o.length (.of 0))],[KN 3 24 o 0],32⟩
theorem QW0(n:Nat)(g:Nat→Nat→Int)(o:List Int):QL 8 [.slz 24 0 n cO] [(24,.rowz true 3 [.int .i64] n g)] (jO o)=(
  some [(0:Nat)=(0:Nat),n=o.length,Cap.of (0:Nat)=Cap.of (0:Nat),o.length≤n,QC (1:Nat) o.length g fun i=>QA.enc (o.getD i (0:Int))]):=by kernel_rfl
def QEV:Prop:=p.ok=true∧s.ok=true∧YK (fun i=>(l.get i).ok) l.n=true∧l.n≤1000
theorem QRh(l:Rw Edge)(hl:QEV p s l):K0 (fun k:Nat=>Wh p s least l (Kn (K1 p s least l) k) k) (fun k=>k≤l.n) (fun k=>l.n-k) (fun _ e J=>e = .exit 0∧J=jO (Kn (K1 p s least l) l.n)) 8 QOB [] (mkE Try.prog XA) (fun _=>hnd (mkE Try.prog XA) 0) (QW Try.f91 0):=by
 obtain⟨h1,h2,h3,h4⟩:=hl;refine⟨fun k g hk=>⟨ze (QWt p s least l _ k g) ?_⟩⟩;have hlen:=QMA (K1 p s least l) k;refine QI (fun h => ?_) (fun h => ?_)
 ·have h:k<l.n:=by have:=qdt h;omega
  have hw:i64.wrap ((k:Int)+1)=((k+1:Nat):Int):=(w64 (by omega) (by omega)).trans (by omega)
  refine QF (by simp;omega) (QF (by simp;omega) (QF (by simp only[okP,h1,h2,QXd h3 h];rfl) (QI (fun hb => ?_) (fun hb => ?_))))
  ·have e:Kn (K1 p s least l) (k+1)=Kn (K1 p s least l) k++[(k:Int)]:=by simp only[Kn,K1];rw[hb]
   refine QF (by simp;omega) ⟨k+1,h,by show l.n-(k+1)<l.n-k;omega,fun _ _ h=>h,rfl,rfl,_,QUu _ _ _ _ _ _ _ _ _,?_⟩
   rw[e]
   repeat' first|exact trivial|with_reducible rfl|exact qlr _|exact qRr|exact hw|refine And.intro ?_ ?_
   ·simp
   ·simp
   ·exact QWe _ _
  ·have e:Kn (K1 p s least l) (k+1)=Kn (K1 p s least l) k:=by simp only[Kn,K1];rw[hb]
   refine⟨k+1,h,by show l.n-(k+1)<l.n-k;omega,fun _ _ h=>h,rfl,rfl,_,QQK _ _ _ _ _ _ _ _ _,?_⟩
   rw[e]
   repeat' first|exact trivial|with_reducible rfl|exact qlr _|exact qRr|exact hw|refine And.intro ?_ ?_
 ·have:k=l.n:=by have:=of_decide_eq_false h;omega
  subst this;refine⟨_,⟨rfl,rfl⟩,rfl,rfl,_,QW0 _ _ _,?_⟩
  repeat' first|exact trivial|with_reducible rfl|exact qlr _|exact qRr|refine And.intro ?_ ?_
theorem QXw(l:Rw Edge)(hl:QEV p s l)(G:Ctx)(hrd:G.rd=none)(hG:G.n=8):Q1 (mkE Try.prog XA) G { hnd (mkE Try.prog XA) 1 with loop:=fun _=>Q7 8 [] (Wh p s least l [] (0:Nat)) [(True,.exit 0,jO (Kn (K1 p s least l) l.n))] } (Qo Try.f91):=by
 refine JF (body:=QW Try.f91 0) (QP Gz) hrd (by kernel_rfl) ?_
 refine JG (n0:=8) (QP Gz) (by omega) (fun s hs=>Qq (QP Gz) 0 G _ hrd) (fun s hs=>(by decide:8≤32)) ?_ (QRh p s least l hl) (s0:=0) (Nat.zero_le _) ?_
 ·rintro s e J ⟨_,rfl⟩;exact(by decide:8≤32)
 ·rintro e J ⟨rfl,rfl⟩;exact⟨_,List.mem_cons_self,trivial,rfl,rfl⟩
theorem QSW:QL 8 [.slz 24 0 o.length cO] [(24,.rowz true 3 [.int .i64] o.length fun i=>QA.enc (o.getD i 0))] (KW 8 (.slz 0 0 o.length cO) [KN 3 0 o 0])=(
  some [(0:Nat)=(0:Nat),o.length=o.length,Cap.of (0:Nat)=Cap.of (0:Nat),o.length≤o.length,QC (1:Nat) o.length (fun i=>QA.enc (o.getD i (0:Int))) fun i
  => QA.enc (o.getD i (0:Int))]):=by kernel_rfl
def jZ:WF (Qn×Edge×Int×(Rw Edge)×Unit):=fun|(p,(s,(least,(l,_))))=>(p.ok&&s.ok&&YK (fun i=>(l.get i).ok) l.n&&decide (l.n≤1000),.slz 0 0 (Kn (K1 p s least l) l.n).length (.of 0),[KN 3 0 (Kn (K1 p s least l) l.n) 0])
def QNe:FC:=wFC jZ
theorem QPo(l:(Rw Edge)):KR (mkE Try.prog XA) { hnd (mkE Try.prog XA) 1 with loop:=fun _=>Q7 8 [] (Wh p s least l [] (0:Nat)) [(True,.exit 0,jO (Kn (K1 p s least l)
  l.n))] } Try.f91 (QX.vals 0 ((p,s,least,l,()):Qn×Edge×Int×(Rw Edge)×Unit)) (QX.blks 0 ((p,s,least,l,()):Qn×Edge×Int×(Rw Edge)×Unit)) 8 = .ask
  (least=least) (.ask (0=0) (.ask (0=0) (.ask (0=0) (.ask (0=0) (.ask (0=0) (.ask (0=0) (.ask (l.n=l.n) (.ask (cO=cO) (.ask ((l.n:Int)=(l.n:Int))
  (.ask ((0:Int)=0) (.ask (p.length=p.length) (.ask (p.slack=p.slack) (.ask (p.loose=p.loose) (.ask (p.damp.lo=p.damp.lo) (.ask (p.damp.hi=p.damp.hi) (.ask (s.kind =
  s.kind) (.ask (s.at_.lo=s.at_.lo) (.ask (s.at_.hi=s.at_.hi) (.ask (s.wide.lo=s.wide.lo) (.ask (s.wide.hi=s.wide.hi) (.ask (s.deep.lo=s.deep.lo) (.ask (s.deep.hi =
  s.deep.hi) (.ask (0=0) (.ask (l.n≤l.n) (.ask (QC 7 l.n (fun i=>QA.enc (l.get i)) fun i=>QA.enc (l.get i)) (.asm (True) (.all (fun(g0:Nat→Value) => .leaf (.slz
  24 0 (Kn (K1 p s least l) l.n).length cO) ([(24,.rowz true 3 [.int .i64] (Kn (K1 p s least l) l.n).length fun i=>QA.enc ((Kn (K1 p s least l)
  l.n).getD i 0))]))))))))))))))))))))))))))))):=by kernel_rfl
theorem QXv:JN (mkE Try.prog XA) (Qo Try.f91) 8 jZ (fun x_=>{ hnd (mkE Try.prog XA) 1 with loop:=fun _=>Q7 8 [] (Wh x_.1 x_.2.1 x_.2.2.1 x_.2.2.2.1 [] (0:Nat)) [(True,.exit 0,jO (Kn (K1 x_.1 x_.2.1 x_.2.2.1 x_.2.2.2.1) x_.2.2.2.1.n))] }):=by
 refine⟨?_⟩;rintro⟨p,⟨s,⟨least,⟨l,⟨⟩⟩⟩⟩⟩ hp G h1 h2;exact QXw p s least l (by simpa[jZ,QEV,and_assoc]using hp) G h1 h2
theorem QXb:JM (mkE Try.prog XA) Try.f91 8 jZ (fun x_=>{ hnd (mkE Try.prog XA) 1 with loop:=fun _=>Q7 8 [] (Wh x_.1 x_.2.1 x_.2.2.1 x_.2.2.2.1 [] (0:Nat)) [(True,.exit 0,jO (Kn (K1 x_.1 x_.2.1 x_.2.2.1 x_.2.2.2.1) x_.2.2.2.1.n))] }):=by
 refine⟨?_⟩;rintro⟨p,⟨s,⟨least,⟨l,⟨⟩⟩⟩⟩⟩ hp;refine⟨⟨rfl,by simp[jZ,KN,Blk.own,Blk.all],rfl⟩,⟨?_⟩⟩
 rw[QPo p s least l];simp only[jZ]at hp
 repeat' first|refine QR (by with_reducible rfl) ?_|refine QR (qlr _) ?_|refine QR (qRr) ?_
 refine KA fun _=>Q6 fun g=>⟨rfl,rfl,_,QSW _,?_⟩
 repeat' first|exact trivial|with_reducible rfl|exact qlr _|exact qRr|refine And.intro ?_ ?_
theorem QQn:QO Try.prog 91 QNe:=
 JX (QP Gz) Try.func91 (by kernel_rfl) (by kernel_rfl) (by decide) QXv QXb
def Wf:Tab:=Qd XA 91 QNe
theorem QFh:QZ Wf:=Gz.add QQn
def V1:Bool:=p.ok&&(s.ok&&YK (fun i=>(l.get i).ok) l.n)
def X8:Int:=match V1 p s l with
 | true=>(match decide (l.n>40)with|true=>3|false=>0)
 | false=>1
def J3(l:Rw Edge):List Int:=match V1 p s l&&decide (l.n≤40)with
 | true=>Kn (K1 p s least l) l.n
 | false=>[]
theorem QSi(e f:Int)(o q:List Int):QL 8 [.tup [.nils,.nils,vj e]] [] (KW 8 (.tup [.slz 0 0 o.length cO,.slz 1 0 q.length cO,vi f]) [KN 3 0 o 0,KN 3 1 q 0])=(
  some [o.length=(0:Nat),q.length=(0:Nat),e=f,o.length=(0:Nat),q.length=(0:Nat)]):=by kernel_rfl
theorem QSN(n m:Nat)(g h:Nat→Nat→Int)(e f:Int)(o q:List Int):QL 8 [.tup [.slz 216 0 n cO,.slz 248 0 m cO,vj e]] [(216,.rowz true 3 [.int .i64] n g),(248,.rowz true 3 [.int .i64] m h)] (KW 8 (.tup [.slz 0 0 o.length cO,.slz 1 0 q.length cO,vi f]) [KN 3 0 o 0,KN 3 1 q 0])=(
  some [(0:Nat)=(0:Nat),n=o.length,Cap.of (0:Nat)=Cap.of (0:Nat),(0:Nat)=(0:Nat),m=q.length,Cap.of (0:Nat)=Cap.of (0:Nat),e=f,o.length≤n,QC
  (1:Nat) o.length g fun i=>QA.enc (o.getD i (0:Int)),q.length≤m,QC (1:Nat) q.length h fun i=>QA.enc (q.getD i (0:Int))]):=by kernel_rfl
def qo:WF (Qn×Edge×(Rw Edge)×Unit):=fun|(p,(s,(l,_)))=>(decide (l.n≤1000),.tup [.slz 0 0 (J3 p s 2 l).length (.of 0),.slz 1 0 (J3 p s 1 l).length (.of 0),.int false .i64 (X8 p s l)],[KN 3 0 (J3 p s 2 l) 0,KN 3 1 (J3 p s 1 l) 0])
def QH0:FC:=wFC qo
theorem QXK(l:(Rw Edge)):KR (mkE Try.prog Wf) (hnd (mkE Try.prog Wf) 0) Try.f72 (QX.vals 0 ((p,s,l,()):Qn×Edge×(Rw Edge)×Unit)) (QX.blks 0 ((p,s,l,()):Qn×Edge ×
  (Rw Edge)×Unit)) 8 = .need (true) (.br (!p.ok) (.leaf (.tup [.nils,.nils,vj 1]) ([])) (.need (true) (.br (!s.ok) (.leaf (.tup [.nils,.nils,vj 1]) ([]))
  (.need (decide (l.n≤l.n)&&true&&decide (l.n≤1000)) (.br (!YK (fun i=>(l.get i).ok) l.n) (.leaf (.tup [.nils,.nils,vj 1]) ([])) (.br (decide ((l.n:Int) >
  40)) (.leaf (.tup [.nils,.nils,vj 3]) ([])) (.need (true&&(true&&(true&&(decide (l.n≤l.n)&&true)))&&(p.ok&&s.ok&&YK (fun i=>(l.get i).ok) l.n &&
  decide (l.n≤1000))) (.need (true&&(true&&(true&&(decide (l.n≤l.n)&&true)))&&(p.ok&&s.ok&&YK (fun i=>(l.get i).ok) l.n&&decide (l.n≤1000))) (.leaf (.tup
  [.slz 216 0 (Kn (K1 p s (2:Int) l) l.n).length cO,.slz 248 0 (Kn (K1 p s (1:Int) l) l.n).length cO,vj 0]) ([(216,.rowz true 3 [.int
  .i64] (Kn (K1 p s (2:Int) l) l.n).length fun i=>QA.enc ((Kn (K1 p s (2:Int) l) l.n).getD i 0)),(248,.rowz true 3 [.int .i64] (Kn (K1 p s (1:Int) l)
  l.n).length fun i=>QA.enc ((Kn (K1 p s (1:Int) l) l.n).getD i 0))])))))))))):=by kernel_rfl
theorem QRk:JN (mkE Try.prog Wf) (Qo Try.f72) 8 qo (fun x_=>(hnd (mkE Try.prog Wf) 0)):=by
 refine⟨?_⟩;rintro⟨p,⟨s,⟨l,⟨⟩⟩⟩⟩ hp G h1 h2;exact Qq (QP QFh) 0 G _ h1
theorem QZP:JM (mkE Try.prog Wf) Try.f72 8 qo (fun x_=>(hnd (mkE Try.prog Wf) 0)):=by
 refine⟨?_⟩;rintro⟨p,⟨s,⟨l,⟨⟩⟩⟩⟩ hp;refine⟨⟨rfl,by simp[qo,KN,Blk.own,Blk.all],rfl⟩,⟨?_⟩⟩
 rw[QXK p s l];simp only[qo]at hp;have hn:l.n≤1000:=qdt hp
 have no:∀ e:Int,J3 p s 2 l=[]→J3 p s 1 l=[]→X8 p s l=e→(QD.leaf (AV.tup [AV.nils,AV.nils,AV.int true i64 e]) []).den (Xj 8 (qo (p,s,l,())).2.1 (qo (p,s,l,())).2.2):=by
  intro e h1 h2 h3;refine⟨rfl,rfl,_,QSi _ _ _ _,?_⟩;rw[h1,h2,h3];exact⟨rfl,rfl,rfl,rfl,rfl,trivial⟩
 refine QF rfl (QI (fun h => ?_) (fun h=>QF rfl (QI (fun h2 => ?_) (fun h2=>QF (by simpa using hn) (QI (fun h3 => ?_) (fun h3=>QI (fun h4 => ?_) (fun h4 => ?_)))))))
 ·have e:V1 p s l=false:=by simp[V1]at h ⊢;simp[h]
  exact no 1 (by simp[J3,e]) (by simp[J3,e]) (by simp[X8,e])
 ·have e:V1 p s l=false:=by simp[V1]at h2 ⊢;simp[h2]
  exact no 1 (by simp[J3,e]) (by simp[J3,e]) (by simp[X8,e])
 ·have e:V1 p s l=false:=by simp[V1]at h3 ⊢;simp[h3]
  exact no 1 (by simp[J3,e]) (by simp[J3,e]) (by simp[X8,e])
 ·have h4:l.n>40:=by have:=qdt h4;omega
  have e1:decide (l.n>40)=true:=decide_eq_true h4;have e2:decide (l.n≤40)=false:=decide_eq_false (by omega)
  have e:V1 p s l=true:=by simp[V1]at h h2 h3 ⊢;exact⟨h,h2,h3⟩
  exact no 3 (by simp only[J3,e,e2];rfl) (by simp only[J3,e,e2];rfl) (by simp only[X8,e,e1])
 ·have h4:¬ l.n>40:=by have:=of_decide_eq_false h4;omega
  have e1:decide (l.n>40)=false:=decide_eq_false h4;have e2:decide (l.n≤40)=true:=decide_eq_true (by omega)
  have e:V1 p s l=true:=by simp[V1]at h h2 h3 ⊢;exact⟨h,h2,h3⟩
  have hq:(p.ok&&s.ok&&YK (fun i=>(l.get i).ok) l.n&&decide (l.n≤1000))=true:=by simp at h h2 h3;simp[h,h2,h3,hn]
  refine QF (by simp only[hq];simp) (QF (by simp only[hq];simp) ⟨rfl,rfl,_,QSN _ _ _ _ _ _ _ _,?_⟩)
  have k2:J3 p s 2 l=Kn (K1 p s 2 l) l.n:=by simp only[J3,e,e2];rfl
  have k1:J3 p s 1 l=Kn (K1 p s 1 l) l.n:=by simp only[J3,e,e2];rfl
  have k3:X8 p s l=0:=by simp only[X8,e,e1]
  rw[k1,k2,k3]
  repeat' first|exact trivial|with_reducible rfl|exact qlr _|exact qRr|refine And.intro ?_ ?_
theorem QRc:QO Try.prog 72 QH0:=
 JX (QP QFh) Try.func72 (by kernel_rfl) (by kernel_rfl) (by decide) QRk QZP
def QAt:Tab:=Qd Wf 72 QH0
theorem QH5:QZ QAt:=QFh.add QRc
def com(x y:Sp):Bool:=decide (x.lo≤y.hi)&&decide (y.lo≤x.hi)
def isF(b s:Edge):Bool:=(b.kind==s.kind)&&(com b.at_ s.at_&&(com b.wide s.wide&&com b.deep s.deep))
def QGX:Edge×Edge×Unit→Bool×AV:=fun|(b,(s,_))=>(true,.bool false (isF b s))
def QN4:FC:=Q2 (Q3 QGX)
theorem QSu(b:Edge)(s:Edge):Qy (mkE Try.prog QAt) (hnd (mkE Try.prog QAt) 3) false Try.f125 (Qp.enc ((b,s,()):Edge×Edge×Unit)) [] 0 =
  QD.br (b.kind==s.kind) (QD.br (decide (b.at_.lo≤s.at_.hi)) (QD.br (decide (s.at_.lo≤b.at_.hi)) (QD.br (decide (b.wide.lo≤s.wide.hi)) (QD.br (decide (s.wide.lo ≤
  b.wide.hi)) (QD.br (decide (b.deep.lo≤s.deep.hi)) (QD.leaf (AV.bool false (decide (s.deep.lo≤b.deep.hi))) ([])) (QD.leaf (AV.bool true false) ([]))) (QD.leaf (AV.bool
  true false) ([]))) (QD.leaf (AV.bool true false) ([]))) (QD.leaf (AV.bool true false) ([]))) (QD.leaf (AV.bool true false) ([]))) (QD.leaf (AV.bool true false) ([])):=by kernel_rfl
theorem QW4:QO Try.prog 125 QN4:=by
 refine KC QH5 3 Try.func125 (by kernel_rfl) (by kernel_rfl) ?_
 rintro⟨b,s,⟨⟩⟩ hp;rw[QSu b s];simp only[QGX,QD.den,AV.same,AV.sameL,and_true,true_and]at hp ⊢;simp only[isF,com];generalize (b.kind==s.kind)=x1;generalize decide (b.at_.lo≤s.at_.hi)=x2
 generalize decide (s.at_.lo≤b.at_.hi)=x3
 generalize decide (b.wide.lo≤s.wide.hi)=x4;generalize decide (s.wide.lo≤b.wide.hi)=x5;generalize decide (b.deep.lo≤s.deep.hi)=x6;generalize decide (s.deep.lo≤b.deep.hi)=x7;cases x1<;>cases x2<;>cases x3<;>cases x4<;>cases x5<;>cases x6<;>cases x7<;>simp
def Vz:Tab:=Qd QAt 125 QN4
theorem GM:QZ Vz:=QH5.add QW4
structure QT where
 up:Edge
 right:Edge
 down:Edge
 left:Edge
def QT.ok(p:QT):Bool:=p.up.ok&&(p.right.ok&&(p.down.ok&&p.left.ok))
instance : QA QT where
  ks := [.int .i64,.int .i64,.int .i64,.int .i64,.int .i64,.int .i64,.int .i64,.int .i64,.int .i64,.int .i64,.int .i64,.int .i64,.int .i64,.int .i64,.int .i64,.int .i64,.int .i64,.int .i64,.int .i64,.int .i64,.int .i64,.int .i64,.int .i64,.int .i64,.int .i64,.int .i64,.int .i64,.int .i64]
  enc p j := match j with
    | 0 => p.up.kind
    | 1 => p.up.at_.lo
    | 2 => p.up.at_.hi
    | 3 => p.up.wide.lo
    | 4 => p.up.wide.hi
    | 5 => p.up.deep.lo
    | 6 => p.up.deep.hi
    | 7 => p.right.kind
    | 8 => p.right.at_.lo
    | 9 => p.right.at_.hi
    | 10 => p.right.wide.lo
    | 11 => p.right.wide.hi
    | 12 => p.right.deep.lo
    | 13 => p.right.deep.hi
    | 14 => p.down.kind
    | 15 => p.down.at_.lo
    | 16 => p.down.at_.hi
    | 17 => p.down.wide.lo
    | 18 => p.down.wide.hi
    | 19 => p.down.deep.lo
    | 20 => p.down.deep.hi
    | 21 => p.left.kind
    | 22 => p.left.at_.lo
    | 23 => p.left.at_.hi
    | 24 => p.left.wide.lo
    | 25 => p.left.wide.hi
    | 26 => p.left.deep.lo
    | _ => p.left.deep.hi
  dec f := ⟨⟨f 0,⟨f 1,f 2⟩,⟨f 3,f 4⟩,⟨f 5,f 6⟩⟩,⟨f 7,⟨f 8,f 9⟩,⟨f 10,f 11⟩,⟨f 12,f 13⟩⟩,⟨f 14,⟨f 15,f 16⟩,⟨f 17,f 18⟩,⟨f 19,f 20⟩⟩,⟨f 21,⟨f 22,f 23⟩,⟨f 24,f 25⟩,⟨f 26,f 27⟩⟩⟩
  ok _ := rfl
instance : Enc QT where
  enc p := .agg [.int false .i64 p.up.kind,.int false .i64 p.up.at_.lo,.int false .i64 p.up.at_.hi,.int false .i64 p.up.wide.lo,.int false .i64 p.up.wide.hi,.int false .i64 p.up.deep.lo,.int false .i64 p.up.deep.hi,.int false .i64 p.right.kind,.int false .i64 p.right.at_.lo,.int false .i64 p.right.at_.hi,.int false .i64 p.right.wide.lo,.int false .i64 p.right.wide.hi,.int false .i64 p.right.deep.lo,.int false .i64 p.right.deep.hi,.int false .i64 p.down.kind,.int false .i64 p.down.at_.lo,.int false .i64 p.down.at_.hi,.int false .i64 p.down.wide.lo,.int false .i64 p.down.wide.hi,.int false .i64 p.down.deep.lo,.int false .i64 p.down.deep.hi,.int false .i64 p.left.kind,.int false .i64 p.left.at_.lo,.int false .i64 p.left.at_.hi,.int false .i64 p.left.wide.lo,.int false .i64 p.left.wide.hi,.int false .i64 p.left.deep.lo,.int false .i64 p.left.deep.hi]
  dec
    | .agg [.int _ .i64 a0,.int _ .i64 a1,.int _ .i64 a2,.int _ .i64 a3,.int _ .i64 a4,.int _ .i64 a5,.int _ .i64 a6,.int _ .i64 a7,.int _ .i64 a8,.int _ .i64 a9,.int _ .i64 a10,.int _ .i64 a11,.int _ .i64 a12,.int _ .i64 a13,.int _ .i64 a14,.int _ .i64 a15,.int _ .i64 a16,.int _ .i64 a17,.int _ .i64 a18,.int _ .i64 a19,.int _ .i64 a20,.int _ .i64 a21,.int _ .i64 a22,.int _ .i64 a23,.int _ .i64 a24,.int _ .i64 a25,.int _ .i64 a26,.int _ .i64 a27] => some ⟨⟨a0,⟨a1,a2⟩,⟨a3,a4⟩,⟨a5,a6⟩⟩,⟨a7,⟨a8,a9⟩,⟨a10,a11⟩,⟨a12,a13⟩⟩,⟨a14,⟨a15,a16⟩,⟨a17,a18⟩,⟨a19,a20⟩⟩,⟨a21,⟨a22,a23⟩,⟨a24,a25⟩,⟨a26,a27⟩⟩⟩
    | _ => none
  ok v x h := by
    split at h <;> (try (cases h; done))
    simp only[qsI]at h; subst h;exact⟨fun _ => rfl,rfl⟩
structure Puz where
 play:Qn
 wide:Int
 high:Int
 turn:Bool
 ps:Rw QT
instance : Qw Puz where
  val k x := .agg [.int false .i64 x.play.length,.int false .i64 x.play.slack,.int false .i64 x.play.loose,.int false .i64 x.play.damp.lo,.int false .i64 x.play.damp.hi,.int false .i64 x.wide,.int false .i64 x.high,.bool false x.turn,Qw.val k x.ps]
  blk k x := Qw.blk k x.ps
  dec v lk := match v with
    | .agg [.int _ .i64 a,.int _ .i64 b,.int _ .i64 c,.int _ .i64 d,.int _ .i64 e,.int _ .i64 f,.int _ .i64 g,.bool _ t,s] => (match (Qw.dec s lk : Option (Bool × Rw QT))with
      | some (p,x) => some (p,⟨⟨a,b,c,⟨d,e⟩⟩,f,g,t,x⟩)
      | none => none)
    | _ => none
  ok v lk p x h hp := by
    split at h <;> (try (cases h; done))
    split at h <;> (try (cases h; done))
    rename_i a b c d e f g t s p' x' hd;simp only[qsI,qpI]at h;obtain⟨rfl,rfl⟩ := h;obtain⟨h1,h2⟩ := Qw.ok _ _ _ _ hd hp;refine⟨fun k => ⟨?_,(h1 k).2⟩,fun r w hb => ?_⟩
    · have := (h1 k).1
      simp only[AV.all,AV.allL,Bool.true_and,Bool.and_true]; exact this
    · obtain⟨l,hl⟩ := h2 r w hb
      refine⟨l,fun k r' hr => ⟨?_,(hl k r' hr).2⟩⟩;have := (hl k r' hr).1;simp only[AV.den,AV.denL]at this ⊢;rw[this]
def QKg:AV→Bool
 | .agg _=>true
 | _=>false
theorem QRA{v:AV}(h:QKg v=true):∃ l,v = .agg l:=by
 cases v<;>first|(cases h;done)|exact⟨_,rfl⟩
structure FnC (α:Type) (g ty:Nat) where
 x:α
instance {α : Type} [Enc α] (g ty : Nat) : Qw (FnC α g ty) where
  val k _ := .fn (.func g) [.ptr k 0 0]
  blk k x := [(k,.cellsR 0 ty (Enc.enc x.x).cells)]
  dec v lk := match v with
    | .fn (.func g') [.ptr id e j] => (match Nat.beq g' g && (Nat.beq e 0 && Nat.beq j 0)with
      | true => (match lk id with
        | some (.cellsR z ty' l) => (match Nat.beq ty' ty && Nat.beq z 0 with
          | true => (match (Enc.dec (.agg l) : Option α)with
            | some a => (match QKg (Enc.enc a)with | true => some (true,⟨a⟩) | false => none)
            | none => none)
          | false => none)
        | _ => none)
      | false => none)
    | _ => none
  ok v lk p x h _ := by
    split at h <;> (try (cases h; done))
    rename_i g' id e j;split at h <;> (try (cases h; done))
    rename_i hg;split at h <;> (try (cases h; done))
    rename_i z ty' l hlk;split at h <;> (try (cases h; done))
    rename_i hz;split at h <;> (try (cases h; done))
    rename_i a ha;split at h <;> (try (cases h; done))
    rename_i hagg;simp only[qbA]at hg hz;have hg1 := Nat.eq_of_beq_eq_true hg.1;have he := Nat.eq_of_beq_eq_true hg.2.1;have hj := Nat.eq_of_beq_eq_true hg.2.2;have ht := Nat.eq_of_beq_eq_true hz.1;have hz0 := Nat.eq_of_beq_eq_true hz.2;subst hg1 he hj ht hz0;simp only[qsI,qpI]at h;obtain⟨_,rfl⟩ := h;obtain⟨k1,k2⟩ := Enc.ok _ _ ha;obtain⟨l',hl'⟩ := QRA hagg;rw[hl']at k1 k2;have hcl : (Enc.enc a).cells = l' := by rw[hl']; rfl
    have k3 : ∀ r,AV.denL r l' = AV.denL r l := fun r => by
      have := k1 r;simp only[AV.den,Value.agg.injEq]at this;exact Array.toList_inj.2 this |> fun h => by simpa using h
    refine⟨fun k => ⟨by simp[AV.all,AV.allL],fun q hq => ?_⟩,fun r w hb => ⟨r id,fun k r' hr => ⟨?_,fun q hq => ?_⟩⟩⟩
    · simp only[List.mem_singleton]at hq; subst hq
      refine⟨rfl,rfl,?_⟩;show AV.allL _ (Enc.enc a).cells = true;rw[hcl]; exact k2
    · simp only[AV.den,AV.denL,hr]
    · simp only[List.mem_singleton]at hq; subst hq
      obtain⟨b1,b2,b3⟩ := hb _ _ hlk;refine⟨by rw[hr]; exact b1,by rw[hr]; exact b2,?_⟩
      show bk w (r' k).blk = some (.cells (AV.denL r' (Enc.enc a).cells).toArray _ _);rw[hr,hcl,denL_congr (p := fun _ => false) (r := r') (r' := r) (fun _ hf => by cases hf) _ k2,k3 r]
      exact b3
abbrev Jx:Type:=FnC Qn 71 25
def K7:Edge:=⟨0,⟨0,0⟩,⟨0,0⟩,⟨0,0⟩⟩
def JA(m:Jx)(l:Rw QT)(i:Nat):Bool := !(m.x.ok&&(l.get i).ok)
theorem QHJ(x:QT)(L:Rw Edge)(hn:L.n=4)(h0:L.get 0=x.up)(h1:L.get 1=x.right)(h2:L.get 2=x.down)(h3:L.get 3=x.left):(X8 p K7 L != 0) = !(p.ok&&x.ok):=by
 have z:K7.ok=true:=by decide
 have e:V1 p K7 L=(p.ok&&x.ok):=by
  simp only[V1,z,YK,QQ,hn,h0,h1,h2,h3,QT.ok,Bool.true_and];cases p.ok<;>cases x.up.ok<;>cases x.right.ok<;>cases x.down.ok<;>cases x.left.ok<;>rfl
 have d:decide (L.n>40)=false:=by rw[hn];rfl
 simp only[X8,e,d];cases p.ok&&x.ok<;>rfl
def idp(l:Rw QT)(m:Jx):List (Nat×Blk):=Qw.blk 0 l++Qw.blk 1 m
def QBm(l:Rw QT)(m:Jx)(k:Nat):JSt:=⟨19,[(0,.slz 0 0 l.n (.of 0)),(1,Qw.val 1 m),(7,.int false .i64 l.n),(8,.int false .i64 k)],idp l m,8⟩
noncomputable abbrev qJ(l:Rw QT):List AV:=
  [vi (l.get k).up.kind,vi (l.get k).up.at_.lo,vi (l.get k).up.at_.hi,vi (l.get k).up.wide.lo,vi (l.get
  k).up.wide.hi,vi (l.get k).up.deep.lo,vi (l.get k).up.deep.hi]
noncomputable abbrev qV(l:Rw QT):List AV:=
  [vi (l.get k).right.kind,vi (l.get k).right.at_.lo,vi (l.get k).right.at_.hi,vi (l.get k).right.wide.lo,.int false .i64
  (l.get k).right.wide.hi,vi (l.get k).right.deep.lo,vi (l.get k).right.deep.hi]
noncomputable abbrev Wp(l:Rw QT):List AV:=
  [vi (l.get k).down.kind,vi (l.get k).down.at_.lo,vi (l.get k).down.at_.hi,vi (l.get k).down.wide.lo,vi (l.get
  k).down.wide.hi,vi (l.get k).down.deep.lo,vi (l.get k).down.deep.hi]
noncomputable abbrev qL(l:Rw QT):List AV:=
  [vi (l.get k).left.kind,vi (l.get k).left.at_.lo,vi (l.get k).left.at_.hi,vi (l.get k).left.wide.lo,vi (l.get
  k).left.wide.hi,vi (l.get k).left.deep.lo,vi (l.get k).left.deep.hi]
theorem QZ7(l:Rw QT)(m:Jx)(k:Nat)(g:Nat→Value):exec (mkE Try.prog Vz) (hnd (mkE Try.prog Vz) 4) (QW Try.f90 0) (JSt.inst (QBm l m k) g) (KF [] jl) = .br (decide ((k:Int)<(l.n:Int))) (.need (decide ((0 :
  Int)≤(k:Int)∧(k:Int)<(l.n:Int))&&decide (l.n≤l.n)) (.need (decide (k<l.n)) (.need (true&&(true&&(true&&true))&&decide (4≤1000)) (.br (X8 m.x (Edge.mk
  (0:Int) (Sp.mk (0:Int) (0:Int)) (Sp.mk (0:Int) (0:Int)) (Sp.mk (0:Int) (0:Int))) (Rw.mk 4 fun i=>Edge.mk (QS [(qJ k l),(qV k l),(Wp k l),(qL k l)] 0 i
  0) (Sp.mk (QS [(qJ k l),(qV k l),(Wp k l),(qL k l)] 0 i 1) (QS [(qJ k l),(qV k l),(Wp k l),(qL k l)] 0 i 2)) (Sp.mk (QS [(qJ k l),(qV k l),(Wp k
  l),(qL k l)] 0 i 3) (QS [(qJ k l),(qV k l),(Wp k l),(qL k l)] 0 i 4)) (Sp.mk (QS [(qJ k l),(qV k l),(Wp k l),(qL k l)] 0 i 5) (QS [(qJ k l),(qV k
  l),(Wp k l),(qL k l)] 0 i 6))) != 0) (.leaf (.tup [.nili,.ptr 19 0 0,vi (k:Int)]) ([])) (.leaf (.tup [.nilp,.ptr 19 0 0,.slz 0 0 l.n cO,.fn
  (Fn.func 71) [.ptr 1 0 0],vi (l.n:Int),vi (i64.wrap ((k:Int)+1))]) ([(0,.frz [.int .i64,.int .i64,.int .i64,.int .i64,.int .i64,.int
  .i64,.int .i64,.int .i64,.int .i64,.int .i64,.int .i64,.int .i64,.int .i64,.int .i64,.int .i64,.int .i64,.int .i64,.int .i64,.int .i64,.int .i64,.int .i64,.int .i64,
  .int .i64,.int .i64,.int .i64,.int .i64,.int .i64,.int .i64] l.n fun i=>QA.enc (l.get i)),(1,.cellsR 0 25 [vi m.x.length,vi m.x.slack,.int
  false .i64 m.x.loose,vi m.x.damp.lo,vi m.x.damp.hi])])))))) (.leaf (.tup [.ptr 0 0 0,.ptr 19 0 0]) ([])):=by kernel_rfl
def QNZ(l:Rw QT)(m:Jx)(k:Nat)(e:Ex)(J:JSt):Prop:=(e = .ret∧(QQ (JA m l) (l.n-k) k).isSome=true∧J=⟨19,[(4,.int false .i64 (KY (QQ (JA m l) (l.n-k) k)))],[],8⟩)∨(e = .exit 0∧QQ (JA m l) (l.n-k) k=none∧J=⟨19,[],[],8⟩)
theorem QZx(l:Rw QT)(m:Jx)(k:Nat)(i:Int):QL 8 [.slz 0 0 l.n cO,Qw.val 1 m,vi l.n,vi i] (idp l m) (QBm l m k)=(
  some [(0:Nat)=(0:Nat),l.n=l.n,Cap.of (0:Nat)=Cap.of (0:Nat),Fn.func (71:Nat)=Fn.func (71:Nat),(0:Nat)=(0:Nat),(0:Nat)=(0:Nat),(↑l.n:Int) =
  (↑l.n:Int),i=(↑k:Int),l.n≤l.n,QC (28:Nat) l.n (fun i=>QA.enc (l.get i)) fun i=>QA.enc (l.get i),m.x.length=m.x.length,m.x.slack=m.x.slack,m.x.loose =
  m.x.loose,m.x.damp.lo=m.x.damp.lo,m.x.damp.hi=m.x.damp.hi]):=by kernel_rfl
theorem QSR(l:Rw QT)(m:Jx)(hl:l.n≤1000):K0 (QBm l m) (fun k=>k≤l.n) (fun k=>l.n-k) (QNZ l m) 8 jl [] (mkE Try.prog Vz) (fun _=>hnd (mkE Try.prog Vz) 4) (QW Try.f90 0):=by
 refine⟨fun k g hk=>⟨ze (QZ7 l m k g) ?_⟩⟩;refine QI (fun h => ?_) (fun h => ?_)
 ·have h:k<l.n:=by have:=qdt h;omega
  obtain⟨n,hm⟩:∃ n,l.n-k=n+1:=⟨l.n-k-1,by omega⟩
  have hm':l.n-(k+1)=n:=by omega
  refine QF (by simp;omega) (QF (by simp;omega) (QF rfl (QI (fun hb => ?_) (fun hb => ?_))))
  ·have hf:QQ (JA m l) (l.n-k) k=some k:=by rw[hm,QQ];unfold JA;rw[(QHJ m.x (l.get k) _ rfl rfl rfl rfl rfl).symm.trans hb]
   exact⟨_,.inl ⟨rfl,by rw[hf];rfl,rfl⟩,rfl,rfl,_,Wl _ _,by rw[hf];exact⟨rfl,trivial⟩⟩
  ·have hf:QQ (JA m l) (l.n-k) k=QQ (JA m l) (l.n-(k+1)) (k+1):=by rw[hm,hm',QQ];unfold JA;rw[(QHJ m.x (l.get k) _ rfl rfl rfl rfl rfl).symm.trans hb]
   refine⟨k+1,by omega,by show l.n-(k+1)<l.n-k;omega,fun e J h=>by unfold QNZ at h ⊢;rw[hf];exact h,rfl,rfl,_,QZx _ _ _ _,?_⟩
   repeat' first|exact trivial|with_reducible rfl|exact qlr _|exact qRr|exact(w64 (by omega) (by omega)).trans (by omega)|refine And.intro ?_ ?_
 ·have h:l.n≤k:=by have:=of_decide_eq_false h;omega
  have hf:QQ (JA m l) (l.n-k) k=none:=by rw[show l.n-k=0 by omega];rfl
  exact⟨_,.inr ⟨rfl,hf,rfl⟩,rfl,rfl,_,QFA,trivial⟩
def QR3(l:Rw QT)(m:Jx):List (Prop×Ex×JSt):=[((QQ (JA m l) l.n 0).isSome=true,.ret,⟨19,[(4,.int false .i64 (KY (QQ (JA m l) l.n 0)))],[],8⟩),(QQ (JA m l) l.n 0=none,.exit 0,⟨19,[],[],8⟩)]
abbrev QAN(l:Rw QT)(m:Jx):Code→St→(Ex→St→QD)→QD:=fun _=>Q7 8 [] (QBm l m 0) (QR3 l m)
theorem QTQ(l:Rw QT)(m:Jx)(hl:l.n≤1000)(G:Ctx)(hrd:G.rd=none)(hG:G.n=8):Q1 (mkE Try.prog Vz) G { hnd (mkE Try.prog Vz) 1 with loop:=QAN l m } (Qo Try.f90):=by
 refine JF (body:=QW Try.f90 0) (QP GM) hrd (by kernel_rfl) ?_
 refine JG (n0:=8) (QP GM) (by omega) (fun s hs=>Qq (QP GM) 4 G _ hrd) (fun s hs=>qlr _) ?_ (QSR l m hl) (s0:=0) (Nat.zero_le _) ?_
 ·rintro s e J (⟨_,_,rfl⟩|⟨_,_,rfl⟩)<;>exact qlr _
 ·rintro e J (⟨rfl,h,rfl⟩|⟨rfl,h,rfl⟩)
  ·exact⟨_,List.mem_cons_self,h,rfl,rfl⟩
  ·exact⟨_,List.mem_cons_of_mem _ List.mem_cons_self,h,rfl,rfl⟩
def zv:WF ((Rw QT)×Jx×Unit):=fun|(l,(m,_))=>(decide (l.n≤1000),.int false .i64 (KY (QQ (JA m l) l.n 0)),[])
def QJH:FC:=wFC zv
theorem QXJ(l:(Rw QT))(m:Jx):KR (mkE Try.prog Vz) { hnd (mkE Try.prog Vz) 1 with loop:=QAN l m } Try.f90 (QX.vals 0 ((l,m,()):(Rw QT)×Jx×Unit)) (QX.blks 0 ((l,m,()):(Rw QT)×Jx×Unit)) 8 =
  QD.ask ((0:Nat)=(0:Nat)) (QD.ask (l.n=l.n) (QD.ask (Cap.of (0:Nat)=Cap.of (0:Nat)) (QD.ask (Fn.func (71:Nat)=Fn.func (71:Nat)) (QD.ask ((0:Nat)=(0
  : Nat)) (QD.ask ((0:Nat)=(0:Nat)) (QD.ask ((↑l.n:Int)=(↑l.n:Int)) (QD.ask ((0:Int)=(0:Int)) (QD.ask (l.n≤l.n) (QD.ask (QC (28:Nat) l.n (fun i=>
  QA.enc (l.get i)) fun i=>QA.enc (l.get i)) (QD.ask (m.x.length=m.x.length) (QD.ask (m.x.slack=m.x.slack) (QD.ask (m.x.loose=m.x.loose) (QD.ask (m.x.damp.lo =
  m.x.damp.lo) (QD.ask (m.x.damp.hi=m.x.damp.hi) (QD.both (QD.asm ((QQ (JA m l) l.n (0:Nat)).isSome=true) (QD.all (fun(g0:Nat→Value)=>QD.leaf (AV.int
  false i64 (KY (QQ (JA m l) l.n (0:Nat)))) ([])))) (QD.asm (QQ (JA m l) l.n (0:Nat)=none) (QD.all (fun(g1:Nat→Value)=>QD.leaf (AV.int true
  i64 (-1:Int)) ([]))))))))))))))))))):=by kernel_rfl
theorem QQF:JN (mkE Try.prog Vz) (Qo Try.f90) 8 zv (fun x_=>{ hnd (mkE Try.prog Vz) 1 with loop:=QAN x_.1 x_.2.1 }):=by
 refine⟨?_⟩;rintro⟨l,⟨m,⟨⟩⟩⟩ hp G h1 h2;exact QTQ l m (qdt hp) G h1 h2
theorem QQW:JM (mkE Try.prog Vz) Try.f90 8 zv (fun x_=>{ hnd (mkE Try.prog Vz) 1 with loop:=QAN x_.1 x_.2.1 }):=by
 refine⟨?_⟩;rintro⟨l,⟨m,⟨⟩⟩⟩ hp;refine⟨⟨rfl,by simp[zv],rfl⟩,⟨?_⟩⟩
 rw[QXJ l m];simp only[zv]at hp
 repeat' first|refine QR (by with_reducible rfl) ?_|refine QR (qlr _) ?_|refine QR (qRr) ?_|refine QR (show _=_ from rfl) ?_
 refine Xf (KA fun h=>Q6 fun g => ?_) (KA fun h=>Q6 fun g => ?_)
 ·exact Kk ⟨rfl,rfl⟩ rfl
 ·exact Kk ⟨rfl,by show(-1:Int)=KY (QQ (JA m l) l.n 0);rw[h];rfl⟩ rfl
theorem QYo:QO Try.prog 90 QJH:=
 JX (QP GM) Try.func90 (by kernel_rfl) (by kernel_rfl) (by decide) QQF QQW
def WT:Tab:=Qd Vz 90 QJH
theorem QDq:QZ WT:=GM.add QYo
def Ga:WF ((Rw QT)×Jx×Unit):=fun|(l,(m,_))=>(decide (l.n≤1000),.bool false (decide (KY (QQ (JA m l) l.n 0)≥0)),[])
def QMh:FC:=wFC Ga
theorem QTx(l:(Rw QT))(m:Jx):KR (mkE Try.prog WT) (hnd (mkE Try.prog WT) 0) Try.f70 (QX.vals 0 ((l,m,()):(Rw QT)×Jx×Unit)) (QX.blks 0 ((l,m,()):(Rw QT)×Jx×Unit)) 8 =
  QD.need (decide (l.n≤l.n)&&(true&&true)&&decide (l.n≤(1000:Nat))) (QD.leaf (AV.bool false (decide (KY (QQ (JA m l) l.n (0:Nat))≥(0:Int)))) ([])):=by kernel_rfl
theorem QUA:JN (mkE Try.prog WT) (Qo Try.f70) 8 Ga (fun x_=>(hnd (mkE Try.prog WT) 0)):=by
 refine⟨?_⟩;rintro⟨l,⟨m,⟨⟩⟩⟩ hp G h1 h2;exact Qq (QP QDq) 0 G _ h1
theorem QSd:JM (mkE Try.prog WT) Try.f70 8 Ga (fun x_=>(hnd (mkE Try.prog WT) 0)):=by
 refine⟨?_⟩;rintro⟨l,⟨m,⟨⟩⟩⟩ hp;refine⟨⟨rfl,by simp[Ga],rfl⟩,⟨?_⟩⟩
 rw[QTx l m];simp only[Ga]at hp;exact QF (by simpa using hp) (Kk rfl rfl)
theorem QZV:QO Try.prog 70 QMh:=
 JX (QP QDq) Try.func70 (by kernel_rfl) (by kernel_rfl) (by decide) QUA QSd
def QBA:Tab:=Qd WT 70 QMh
theorem QIa:QZ QBA:=QDq.add QZV
def VR(l:Rw QT):Bool:=(QQ (JA ⟨p⟩ l) l.n 0).isNone
def QJG:Int×Int×Int×Unit→Bool×AV:=fun|(n,(a,(b,_)))=>(true,.bool false (Qf n a b))
def QJF:FC:=Q2 (Q3 QJG)
theorem QUm(n:Int)(a:Int)(b:Int):Qy (mkE Try.prog QBA) (hnd (mkE Try.prog QBA) 2) false Try.f66 (Qp.enc ((n,a,b,()):Int×Int×Int×Unit)) [] 0 =
  QD.br (decide (a≤n)) (QD.leaf (AV.bool false (decide (n≤b))) ([])) (QD.leaf (AV.bool true false) ([])):=by kernel_rfl
theorem QXA:QO Try.prog 66 QJF:=by
 refine KC QIa 2 Try.func66 (by kernel_rfl) (by kernel_rfl) ?_
 rintro⟨n,a,b,⟨⟩⟩ hp;rw[QUm n a b];simp only[QJG,QD.den,AV.same,AV.sameL,and_true,true_and]at hp ⊢
 (repeat' (first|(refine And.intro ?_ ?_)|(intro _)))<;>simp_all [Qf]<;>omega
def Wb:Tab:=Qd QBA 66 QJF
theorem QEe:QZ Wb:=QIa.add QXA
def zb:WF (Qn×(Rw QT)×Unit):=fun|(p,(l,_))=>(decide (l.n≤1000),.bool false (VR p l),[])
def QJE:FC:=wFC zb
theorem QT3(l:(Rw QT)):KR (mkE Try.prog Wb) (hnd (mkE Try.prog Wb) 0) Try.f42 (QX.vals 0 ((p,l,()):Qn×(Rw QT)×Unit)) (QX.blks 0 ((p,l,()):Qn×(Rw QT)×Unit)) 8 =
  QD.need (decide (l.n≤l.n)&&(true&&true)&&decide (l.n≤(1000:Nat))) (QD.leaf (AV.bool false !decide (KY (QQ (JA (FnC.mk p) l) l.n (0:Nat))≥(0:Int)))
  ([])):=by kernel_rfl
theorem QQg:JN (mkE Try.prog Wb) (Qo Try.f42) 8 zb (fun x_=>(hnd (mkE Try.prog Wb) 0)):=by
 refine⟨?_⟩;rintro⟨p,⟨l,⟨⟩⟩⟩ hp G h1 h2;exact Qq (QP QEe) 0 G _ h1
theorem QUw:JM (mkE Try.prog Wb) Try.f42 8 zb (fun x_=>(hnd (mkE Try.prog Wb) 0)):=by
 refine⟨?_⟩;rintro⟨p,⟨l,⟨⟩⟩⟩ hp;refine⟨⟨rfl,by simp[zb],rfl⟩,⟨?_⟩⟩
 rw[QT3 p l];simp only[zb]at hp;exact QF (by simpa using hp) (Kk (QEz _) rfl)
theorem QTt:QO Try.prog 42 QJE:=
 JX (QP QEe) Try.func42 (by kernel_rfl) (by kernel_rfl) (by decide) QQg QUw
def Zw:Tab:=Qd Wb 42 QJE
theorem QEL:QZ Zw:=QEe.add QTt
def Puz.okN(d:Puz):Bool:=Qf (d.ps.n:Int) 1 9&&(Qf d.wide 1 d.ps.n&&(Qf d.high 1 d.ps.n&&i64.wrap (d.wide*d.high)==(d.ps.n:Int)))
def Puz.ok(d:Puz):Bool:=d.okN&&VR d.play d.ps
def qR:WF (Puz×Unit):=fun|(d,_)=>(decide (d.ps.n≤1000),.bool false d.ok,[])
def QMc:FC:=wFC qR
theorem QQM(d:Puz):KR (mkE Try.prog Zw) (hnd (mkE Try.prog Zw) 0) Try.f37 (QX.vals 0 ((d,()):Puz×Unit)) (QX.blks 0 ((d,()):Puz×Unit)) 8 =
  QD.need (true) (QD.br (Qf (↑d.ps.n:Int) (1:Int) (9:Int)) (QD.need (true) (QD.br (Qf d.wide (1:Int) (↑d.ps.n:Int)) (QD.need (true) (QD.br (Qf d.high
  (1:Int) (↑d.ps.n:Int)) (QD.br (i64.wrap (d.wide*d.high)==(↑d.ps.n:Int)) (QD.need (true&&(decide (d.ps.n≤d.ps.n)&&true)&&decide (d.ps.n≤(1000:Nat)))
  (QD.leaf (AV.bool false (VR d.play d.ps)) ([]))) (QD.leaf (AV.bool true false) ([]))) (QD.leaf (AV.bool true false) ([])))) (QD.leaf (AV.bool true false) ([]))))
  (QD.leaf (AV.bool true false) ([]))):=by kernel_rfl
theorem QXj:JN (mkE Try.prog Zw) (Qo Try.f37) 8 qR (fun x_=>(hnd (mkE Try.prog Zw) 0)):=by
 refine⟨?_⟩;rintro⟨d,⟨⟩⟩ hp G h1 h2;exact Qq (QP QEL) 0 G _ h1
theorem QUY:JM (mkE Try.prog Zw) Try.f37 8 qR (fun x_=>(hnd (mkE Try.prog Zw) 0)):=by
 refine⟨?_⟩;rintro⟨d,⟨⟩⟩ hp;refine⟨⟨rfl,by simp[qR],rfl⟩,⟨?_⟩⟩
 rw[QQM d];simp only[qR]at hp;have no:d.okN=false→(QD.leaf (AV.bool true false) []).den (Xj 8 (qR (d,())).2.1 (qR (d,())).2.2):=fun h=>Kk (show false=d.ok by rw[Puz.ok,h];rfl) rfl
 refine QF rfl (QI (fun h1=>QF rfl (QI (fun h2=>QF rfl (QI (fun h3=>QI (fun h4=>QF (by simpa using hp) (Kk (show VR d.play d.ps=d.ok by rw[Puz.ok,Puz.okN,h1,h2,h3,h4];rfl) rfl)) (fun h4=>no (by rw[Puz.okN,h1,h2,h3,h4];rfl))) (fun h3=>no (by rw[Puz.okN,h1,h2,h3];rfl)))) (fun h2=>no (by rw[Puz.okN,h1,h2];rfl)))) (fun h1=>no (by rw[Puz.okN,h1];rfl)))
theorem QQL:QO Try.prog 37 QMc:=
 JX (QP QEL) Try.func37 (by kernel_rfl) (by kernel_rfl) (by decide) QXj QUY
def Hq:Tab:=Qd Zw 37 QMc
theorem QJS:QZ Hq:=QEL.add QQL
def QCV(s:Int):Int:=(s+2).tmod 4
def QIc:Int×Unit→Bool×AV:=fun|(s,_)=>(decide (0≤s∧s≤3),.int false .i64 (QCV s))
def QMN:FC:=Q2 (Q3 QIc)
theorem QUl(s:Int):Qy (mkE Try.prog Hq) (hnd (mkE Try.prog Hq) 2) false Try.f39 (Qp.enc ((s,()):Int×Unit)) [] 0 =
  QD.leaf (AV.int false i64 ((i64.wrap (s+(2:Int))).tmod (4:Int))) ([]):=by kernel_rfl
theorem QPf:QO Try.prog 39 QMN:=by
 refine KC QJS 2 Try.func39 (by kernel_rfl) (by kernel_rfl) ?_
 rintro⟨s,⟨⟩⟩ hp;rw[QUl s];simp only[QIc,QD.den,AV.same,AV.sameL,and_true,true_and]at hp ⊢;have hp:=qdt hp;show(i64.wrap (s+2)).tmod 4=QCV s;rw[w64 (by omega) (by omega)];rfl
def WK:Tab:=Qd Hq 39 QMN
theorem QF8:QZ WK:=QJS.add QPf
def Qb(wide high cell side:Int):Int:=
 cond (side==0&&decide (0<cell.tdiv wide)) (cell-wide) (cond (side==1&&decide (cell.tmod wide<wide-1)) (cell+1)
  (cond (side==2&&decide (cell.tdiv wide<high-1)) (cell+wide) (cond (side==3&&decide (0<cell.tmod wide)) (cell-1) (-1))))
def qQ:WF (Puz×Int×Int×Unit):=fun|(d,(c,(s,_)))=>(decide ((1≤d.wide∧d.wide≤100)∧(1≤d.high∧d.high≤100)∧(0≤c∧c≤100)),.int false .i64 (Qb d.wide d.high c s),[])
def QOe:FC:=wFC qQ
theorem QXm(d:Puz)(c:Int)(s:Int):KR (mkE Try.prog WK) (hnd (mkE Try.prog WK) 0) Try.f38 (QX.vals 0 ((d,c,s,()):Puz×Int×Int×Unit)) (QX.blks 0 ((d,c,s,()):Puz×Int×Int ×
  Unit)) 8 = .need (!decide (d.wide=0)) (.need (!decide (d.wide=0)) (.br (s==0) (.br (decide (i64.wrap (c.tdiv d.wide)>0)) (.leaf (.int false .i64 (i64.wrap (c
  - d.wide))) ([])) (.br (s==1) (.br (decide (c.tmod d.wide<i64.wrap (d.wide-1))) (.leaf (.int false .i64 (i64.wrap (c+1))) ([])) (.br (s==2) (.br (decide
  (i64.wrap (c.tdiv d.wide)<i64.wrap (d.high-1))) (.leaf (.int false .i64 (i64.wrap (c+d.wide))) ([])) (.br (s==3) (.br (decide (c.tmod d.wide>0))
  (.leaf (.int false .i64 (i64.wrap (c-1))) ([])) (.leaf (.int true .i64 (-1)) ([]))) (.leaf (.int true .i64 (-1)) ([])))) (.br (s==3) (.br (decide (c.tmod d.wide>0))
  (.leaf (.int false .i64 (i64.wrap (c-1))) ([])) (.leaf (.int true .i64 (-1)) ([]))) (.leaf (.int true .i64 (-1)) ([]))))) (.br (s==2) (.br (decide (i64.wrap
  (c.tdiv d.wide)<i64.wrap (d.high-1))) (.leaf (.int false .i64 (i64.wrap (c+d.wide))) ([])) (.br (s==3) (.br (decide (c.tmod d.wide>0)) (.leaf (.int false
  .i64 (i64.wrap (c-1))) ([])) (.leaf (.int true .i64 (-1)) ([]))) (.leaf (.int true .i64 (-1)) ([])))) (.br (s==3) (.br (decide (c.tmod d.wide>0)) (.leaf (.int false
  .i64 (i64.wrap (c-1))) ([])) (.leaf (.int true .i64 (-1)) ([]))) (.leaf (.int true .i64 (-1)) ([])))))) (.br (s==1) (.br (decide (c.tmod d.wide<i64.wrap
  (d.wide-1))) (.leaf (.int false .i64 (i64.wrap (c+1))) ([])) (.br (s==2) (.br (decide (i64.wrap (c.tdiv d.wide)<i64.wrap (d.high-1))) (.leaf (.int
  false .i64 (i64.wrap (c+d.wide))) ([])) (.br (s==3) (.br (decide (c.tmod d.wide>0)) (.leaf (.int false .i64 (i64.wrap (c-1))) ([])) (.leaf (.int true .i64
  (-1)) ([]))) (.leaf (.int true .i64 (-1)) ([])))) (.br (s==3) (.br (decide (c.tmod d.wide>0)) (.leaf (.int false .i64 (i64.wrap (c-1))) ([])) (.leaf (.int true .i64
  (-1)) ([]))) (.leaf (.int true .i64 (-1)) ([]))))) (.br (s==2) (.br (decide (i64.wrap (c.tdiv d.wide)<i64.wrap (d.high-1))) (.leaf (.int false .i64
  (i64.wrap (c+d.wide))) ([])) (.br (s==3) (.br (decide (c.tmod d.wide>0)) (.leaf (.int false .i64 (i64.wrap (c-1))) ([])) (.leaf (.int true .i64 (-1)) ([])))
  (.leaf (.int true .i64 (-1)) ([])))) (.br (s==3) (.br (decide (c.tmod d.wide>0)) (.leaf (.int false .i64 (i64.wrap (c-1))) ([])) (.leaf (.int true .i64 (-1)) ([])))
  (.leaf (.int true .i64 (-1)) ([]))))))):=by kernel_rfl
theorem QRC:JN (mkE Try.prog WK) (Qo Try.f38) 8 qQ (fun x_=>(hnd (mkE Try.prog WK) 0)):=by
 refine⟨?_⟩;rintro⟨d,⟨c,⟨s,⟨⟩⟩⟩⟩ hp G h1 h2;exact Qq (QP QF8) 0 G _ h1
theorem QX7:JM (mkE Try.prog WK) Try.f38 8 qQ (fun x_=>(hnd (mkE Try.prog WK) 0)):=by
 refine⟨?_⟩;rintro⟨d,⟨c,⟨s,⟨⟩⟩⟩⟩ hp;refine⟨⟨rfl,by simp[qQ],rfl⟩,⟨?_⟩⟩
 rw[QXm d c s];simp only[qQ]at hp;obtain⟨⟨w1,w2⟩,⟨h1,h2⟩,c1,c2⟩:=qdt hp;have q0:0≤c.tdiv d.wide:=Int.tdiv_nonneg c1 (by omega)
 have q1:c.tdiv d.wide≤c:=by rw[Int.tdiv_eq_ediv_of_nonneg c1];exact Int.ediv_le_self _ c1
 have m0:0≤c.tmod d.wide:=Int.tmod_nonneg _ c1;have m1:c.tmod d.wide<d.wide:=Int.tmod_lt_of_pos _ (by omega)
 have e1:i64.wrap (c.tdiv d.wide)=c.tdiv d.wide:=w64 (by omega) (by omega)
 have e2:i64.wrap (c-d.wide)=c-d.wide:=w64 (by omega) (by omega)
 have e3:i64.wrap (d.wide-1)=d.wide-1:=w64 (by omega) (by omega)
 have e4:i64.wrap (c+1)=c+1:=w64 (by omega) (by omega)
 have e5:i64.wrap (d.high-1)=d.high-1:=w64 (by omega) (by omega)
 have e6:i64.wrap (c+d.wide)=c+d.wide:=w64 (by omega) (by omega)
 have e7:i64.wrap (c-1)=c-1:=w64 (by omega) (by omega)
 have dz:(!decide (d.wide=0))=true:=by simp;omega
 rw[e1,e2,e3,e4,e5,e6,e7];refine QF dz (QF dz ?_);have fin:∀ v:AV,v.same (.int false .i64 (Qb d.wide d.high c s))→(QD.leaf v []).den (Xj 8 (qQ (d,c,s,())).2.1 (qQ (d,c,s,())).2.2):=fun v h=>Kk h rfl
 repeat' refine QI (fun _ => ?_) (fun _ => ?_)
 all_goals refine fin _ ?_
 all_goals simp only[AV.same,Qb,true_and]
 all_goals grind
theorem QUx:QO Try.prog 38 QOe:=
 JX (QP QF8) Try.func38 (by kernel_rfl) (by kernel_rfl) (by decide) QRC QX7
def X7:Tab:=Qd WK 38 QOe
theorem HA:QZ X7:=QF8.add QUx
end Go.Proofs.Ytbpffdkemeoajaa
