/- - -/
import Derived.Test.YtbpffdkemeoajaaMao
import Derived.Test.YtbpffdkemeoajaaMaq
open Go.IntKind (i64)
set_option maxRecDepth 100000
namespace Go.Proofs.Ytbpffdkemeoajaa
open Go.SX
def Qd(fn:Func)(k:Nat):Code:=match (JB (Qr fn))[k]? with
 | some (.loop b)=>b
 | _ => .skip
instance : QA Edge where
  ks := [.int .i64,.int .i64,.int .i64,.int .i64,.int .i64,.int .i64,.int .i64]
  enc e j := match j with
    | 0 => e.kind
    | 1 => e.at_.lo
    | 2 => e.at_.hi
    | 3 => e.wide.lo
    | 4 => e.wide.hi
    | 5 => e.deep.lo
    | _ => e.deep.hi
  dec f := ⟨f 0,⟨f 1,f 2⟩,⟨f 3,f 4⟩,⟨f 5,f 6⟩⟩
  ok _ := rfl
structure FnK (g:Nat) where
 u:Unit
instance (g : Nat) : Enc (FnK g) where
  enc _ := .fn (.func g) []
  dec v := match v with
    | .fn (.func g') [] => (match Nat.beq g' g with | true => some ⟨()⟩ | false => none)
    | _ => none
  ok v x h := by
    split at h <;> (try (cases h; done))
    split at h <;> (try (cases h; done))
    rename_i hg;have := Nat.eq_of_beq_eq_true hg;subst this;exact⟨fun _ => rfl,rfl⟩
def QU(p:Nat→Bool):Nat→Nat→Option Nat
 | 0,_=>none
 | m+1,k=>match p k with
  | true=>some k
  | false=>QU p m (k+1)
def Kl:Option Nat→Int
 | some i=>i
 | none => -1
def Yl(p:Nat→Bool)(n:Nat):Bool:=(QU (fun i => !p i) n 0).isNone
theorem HG{p:Nat→Bool}:∀{m k:Nat},QU p m k=none→∀ i,k≤i→i<k+m→p i=false
 | 0,k,_,i,h1,h2=>by omega
 | m+1,k,h,i,h1,h2=>by
  simp only[QU]at h;split at h
  ·cases h
  ·rename_i hk;rcases Nat.eq_or_lt_of_le h1 with rfl|hlt
   ·exact hk
   ·exact HG h i hlt (by omega)
theorem Qaz{p:Nat→Bool}{n:Nat}(h:Yl p n=true){i:Nat}(hi:i<n):p i=true:=by
 unfold Yl at h;rw[Option.isNone_iff_eq_none]at h;have:=HG h i (Nat.zero_le _) (by omega)
 simpa using this
theorem GA{p:Nat→Bool}:∀{m k:Nat},(∀ i,k≤i→i<k+m→p i=false)→QU p m k=none
 | 0,_,_=>rfl
 | m+1,k,h=>by
  simp only[QU];rw[h k (qlr _) (by omega)]
  exact GA fun i h1 h2=>h i (by omega) (by omega)
def QM6:Edge×Unit→Bool×AV:=fun|(s,_)=>(true,.bool false (!s.ok))
def QP2:FC:=KD (KE QM6)
variable (p:Qm)(s:Edge)(k:Nat)(l:Rw Edge)(least:Int)(o:List Int)
theorem QXt:Q8 (mkE Try.prog QAO) (hnd (mkE Try.prog QAO) 0) false Try.f84 (Qt.enc ((s,()):Edge×Unit)) [] 0 =
  QD.need (true) (QD.leaf (AV.bool false !s.ok) ([])):=by kernel_rfl
theorem Qbp:QQ Try.prog 84 QP2:=by
 refine KQ QNa 0 Try.func84 (by kernel_rfl) (by kernel_rfl) ?_
 rintro⟨s,⟨⟩⟩ hp;rw[QXt s];simp only[QM6,QD.den,AV.same,AV.sameL,and_true,true_and]at hp ⊢
def Yq:Tab:=Qe QAO 84 QP2
theorem GX:Qc Yq:=QNa.add Qbp
def J2(i:Nat):Bool := !(l.get i).ok
def QCJ(k:Nat):JSt:=⟨19,[(0,.slz 0 0 l.n (.of 0)),(1,.fn (.func 84) []),(7,.int false .i64 l.n),(8,.int false .i64 k)],Q3.blk 0 l,8⟩
def vE:Ex→List Nat
 | .normal=>[0,1,7,8]
 | .exit _=>[]
 | .ret=>[4]
theorem QZd(k:Nat)(g:Nat→Value):exec (mkE Try.prog Yq) (hnd (mkE Try.prog Yq) 0) (Qd Try.f96 0) (JSt.inst (QCJ l k) g) (KS [] vE) =
  QD.br (decide ((↑k:Int)<(↑l.n:Int))) (QD.need (decide ((0:Int)≤(↑k:Int)∧(↑k:Int)<(↑l.n:Int))&&decide (l.n≤l.n)) (QD.need (decide (k<l.n)) (QD.need
  (true) (QD.br (!(l.get k).ok) (QD.leaf (AV.tup [AV.nili,AV.ptr (19:Nat) (0:Nat) (0:Nat),AV.int false i64 (↑k:Int)]) ([])) (QD.leaf (AV.tup [AV.nilp,AV.ptr
  (19:Nat) (0:Nat) (0:Nat),AV.slz (0:Nat) (0:Nat) l.n (Cap.of (0:Nat)),AV.fn (Fn.func (84:Nat)) [],AV.int false i64 (↑l.n:Int),AV.int false i64
  (i64.wrap ((↑k:Int)+(1:Int)))]) ([((0:Nat),Blk.frz [CK.int i64,CK.int i64,CK.int i64,CK.int i64,CK.int i64,CK.int
  i64,CK.int i64] l.n fun i=>QA.enc (l.get i))])))))) (QD.leaf (AV.tup [AV.ptr (0:Nat) (0:Nat) (0:Nat),AV.ptr (19:Nat) (0:Nat) (0:Nat)]) ([])):=by kernel_rfl
def QOJ(k:Nat)(e:Ex)(J:JSt):Prop:=(e = .ret∧(QU (J2 l) (l.n-k) k).isSome=true∧J=⟨19,[(4,.int false .i64 (Kl (QU (J2 l) (l.n-k) k)))],[],8⟩)∨(e = .exit 0∧QU (J2 l) (l.n-k) k=none∧J=⟨19,[],[],8⟩)
theorem Qcp(k:Nat)(i:Int):QK 8 [.slz 0 0 l.n cO,.fn (.func 84) [],vi l.n,vi i] (Q3.blk 0 l) (QCJ l k)=(
  some [(0:Nat)=(0:Nat),l.n=l.n,Cap.of (0:Nat)=Cap.of (0:Nat),Fn.func (84:FuncId)=Fn.func (84:FuncId),(↑l.n:Int)=(↑l.n:Int),i=(↑k:Int),l.n≤l.n,
  QC (7:Nat) l.n (fun i=>QA.enc (l.get i)) fun i=>QA.enc (l.get i)]):=by kernel_rfl
theorem qS(i j:Int):QK 8 [vi i] [] ⟨19,[(4,vi j)],[],8⟩=(
  some [i=j]):=by kernel_rfl
theorem QHX :QK 8 [] [] ⟨19,[],[],8⟩=(
  some []):=by kernel_rfl
theorem Qaf(hl:l.n≤1000):Ji (QCJ l) (fun k=>k≤l.n) (fun k=>l.n-k) (QOJ l) 8 vE [] (mkE Try.prog Yq) (fun _=>hnd (mkE Try.prog Yq) 0) (Qd Try.f96 0):=by
 refine⟨fun k g hk=>⟨Ga (QZd l k g) ?_⟩⟩;refine QI (fun h => ?_) (fun h => ?_)
 ·have h:k<l.n:=by have:=qdt h;omega
  obtain⟨m,hm⟩:∃ m,l.n-k=m+1:=⟨l.n-k-1,by omega⟩
  have hm':l.n-(k+1)=m:=by omega
  refine QF (by simp;omega) (QF (by simp;omega) (QF rfl (QI (fun hb => ?_) (fun hb => ?_))))
  ·have hf:QU (J2 l) (l.n-k) k=some k:=by rw[hm,QU];unfold J2;rw[hb]
   exact⟨_,.inl ⟨rfl,by rw[hf];rfl,rfl⟩,rfl,rfl,_,qS _ _,by rw[hf];exact⟨rfl,trivial⟩⟩
  ·have hf:QU (J2 l) (l.n-k) k=QU (J2 l) (l.n-(k+1)) (k+1):=by rw[hm,hm',QU];unfold J2;rw[hb]
   refine⟨k+1,by omega,by show l.n-(k+1)<l.n-k;omega,fun e J h=>by unfold QOJ at h ⊢;rw[hf];exact h,rfl,rfl,_,Qcp _ _ _,?_⟩
   exact⟨rfl,rfl,rfl,rfl,rfl,(w64 (by omega) (by omega)).trans (by omega),qlr _,qRr,trivial⟩
 ·have h:l.n≤k:=by have:=of_decide_eq_false h;omega
  have hf:QU (J2 l) (l.n-k) k=none:=by rw[show l.n-k=0 by omega];rfl
  exact⟨_,.inr ⟨rfl,hf,rfl⟩,rfl,rfl,_,QHX,trivial⟩
def QbI:List (Prop×Ex×JSt):=[((QU (J2 l) l.n 0).isSome=true,.ret,⟨19,[(4,.int false .i64 (Kl (QU (J2 l) l.n 0)))],[],8⟩),(QU (J2 l) l.n 0=none,.exit 0,⟨19,[],[],8⟩)]
abbrev QA5(P:Program)(l:Rw Edge):Hnd:={ hnd (mkE P Yq) 1 with loop:=fun _=>KN 8 [] (QCJ l 0) (QbI l) }
theorem QRd(hl:l.n≤1000)(G:Ctx)(hrd:G.rd=none)(hG:G.n=8):KH (mkE Try.prog Yq) G (QA5 Try.prog l) (Qr Try.f96):=by
 refine Jd (body:=Qd Try.f96 0) (QT GX) hrd (by kernel_rfl) ?_
 refine Ju (n0:=8) (QT GX) (by omega) (fun s hs=>Qz (QT GX) 0 G _ hrd) (fun s hs=>qlr _) ?_ (Qaf l hl) (s0:=0) (Nat.zero_le _) ?_
 ·rintro s e J (⟨_,_,rfl⟩|⟨_,_,rfl⟩)<;>exact qlr _
 ·rintro e J (⟨rfl,h,rfl⟩|⟨rfl,h,rfl⟩)
  ·exact⟨_,List.mem_cons_self,h,rfl,rfl⟩
  ·exact⟨_,List.mem_cons_of_mem _ List.mem_cons_self,h,rfl,rfl⟩
theorem QdW(x:FnK 84):Kc (mkE Try.prog Yq) (QA5 Try.prog l) Try.f96 (QX.vals 0 (l,x,())) (QX.blks 0 (l,x,())) 8 =
  QD.ask ((0:Nat)=(0:Nat)) (QD.ask (l.n=l.n) (QD.ask (Cap.of (0:Nat)=Cap.of (0:Nat)) (QD.ask (Fn.func (84:Nat)=Fn.func (84:FuncId)) (QD.ask ((↑l.n:Int)
  = (↑l.n:Int)) (QD.ask ((0:Int)=(0:Int)) (QD.ask (l.n≤l.n) (QD.ask (QC (7:Nat) l.n (fun i=>QA.enc (l.get i)) fun i=>QA.enc (l.get i)) (QD.both
  (QD.asm ((QU (J2 l) l.n (0:Nat)).isSome=true) (QD.all (fun(g0:Nat→Value)=>QD.leaf (AV.int false i64 (Kl (QU (J2 l) l.n (0:Nat)))) ([]))))
  (QD.asm (QU (J2 l) l.n (0:Nat)=none) (QD.all (fun(g1:Nat→Value)=>QD.leaf (AV.int true i64 (-1:Int)) ([])))))))))))):=by kernel_rfl
def QAu:WF (Rw Edge×FnK 84×Unit):=fun x=>(decide (x.1.n≤1000),.int false .i64 (Kl (QU (J2 x.1) x.1.n 0)),[])
def QRL:FC:=wFC QAu
theorem QcW:Jr (mkE Try.prog Yq) (Qr Try.f96) 8 QAu (fun x=>QA5 Try.prog x.1):=
 ⟨fun x hx G h1 h2=>QRd x.1 (qdt hx) G h1 h2⟩
theorem QST:Jo (mkE Try.prog Yq) Try.f96 8 QAu (fun x=>QA5 Try.prog x.1):=by
 refine⟨?_⟩;rintro⟨l,x,⟨⟩⟩ hp;refine⟨⟨rfl,by simp[QAu],rfl⟩,⟨?_⟩⟩
 rw[QdW l x];refine Qb rfl (Qb rfl (Qb rfl (Qb rfl (Qb rfl (Qb rfl (Qb (qlr _) (Qb (qRr) (Yu (KO fun h=>KK fun g => ?_) (KO fun h=>KK fun g => ?_)))))))))
 ·exact JE ⟨rfl,rfl⟩ rfl
 ·exact JE ⟨rfl,by show(-1:Int)=Kl (QU (J2 l) l.n 0);rw[h];rfl⟩ rfl
theorem QWM:QQ Try.prog 96 QRL:=
 Jx (QT GX) Try.func96 (by kernel_rfl) (by kernel_rfl) (by decide) QcW QST
def Z2:Tab:=Qe Yq 96 QRL
theorem QG9:Qc Z2:=GX.add QWM
def zf:WF ((Rw Edge)×(FnK 84)×Unit):=fun|(l,(x,_))=>(decide (l.n≤1000),.bool false (decide (Kl (QU (J2 l) l.n 0)≥0)),[])
def QKD:FC:=wFC zf
theorem QWB(l:(Rw Edge))(x:(FnK 84)):Kc (mkE Try.prog Z2) (hnd (mkE Try.prog Z2) 0) Try.f83 (QX.vals 0 ((l,x,()):(Rw Edge)×(FnK 84)×Unit)) (QX.blks 0 ((l,x,()):(Rw Edge)×(FnK 84)×Unit)) 8 =
  QD.need (decide (l.n≤l.n)&&(true&&true)&&decide (l.n≤(1000:Nat))) (QD.leaf (AV.bool false (decide (Kl (QU (J2 l) l.n (0:Nat))≥(0:Int)))) ([])):=by kernel_rfl
theorem QVX:Jr (mkE Try.prog Z2) (Qr Try.f83) 8 zf (fun x_=>(hnd (mkE Try.prog Z2) 0)):=by
 refine⟨?_⟩;rintro⟨l,⟨x,⟨⟩⟩⟩ hp G h1 h2;exact Qz (QT QG9) 0 G _ h1
theorem QTT:Jo (mkE Try.prog Z2) Try.f83 8 zf (fun x_=>(hnd (mkE Try.prog Z2) 0)):=by
 refine⟨?_⟩;rintro⟨l,⟨x,⟨⟩⟩⟩ hp;refine⟨⟨rfl,by simp[zf],rfl⟩,⟨?_⟩⟩
 rw[QWB l x];simp only[zf]at hp;exact QF (by simpa using hp) (JE rfl rfl)
theorem QdJ:QQ Try.prog 83 QKD:=
 Jx (QT QG9) Try.func83 (by kernel_rfl) (by kernel_rfl) (by decide) QVX QTT
def Ws:Tab:=Qe Z2 83 QKD
theorem QHQ:Qc Ws:=QG9.add QdJ
theorem QEL:∀(o:Option Nat),(!decide (Kl o≥0))=o.isNone
 | some i=>by simp[Kl]
 | none=>rfl
def HN:WF ((Rw Edge)×Unit):=fun|(l,_)=>(decide (l.n≤1000),.bool false (Yl (fun i=>(l.get i).ok) l.n),[])
def QKZ:FC:=wFC HN
theorem Qbm(l:(Rw Edge)):Kc (mkE Try.prog Ws) (hnd (mkE Try.prog Ws) 0) Try.f60 (QX.vals 0 ((l,()):(Rw Edge)×Unit)) (QX.blks 0 ((l,()):(Rw Edge)×Unit)) 8 =
  QD.need (decide (l.n≤l.n)&&(true&&true)&&decide (l.n≤(1000:Nat))) (QD.leaf (AV.bool false !decide (Kl (QU (J2 l) l.n (0:Nat))≥(0:Int))) ([])):=by kernel_rfl
theorem QZy:Jr (mkE Try.prog Ws) (Qr Try.f60) 8 HN (fun x_=>(hnd (mkE Try.prog Ws) 0)):=by
 refine⟨?_⟩;rintro⟨l,⟨⟩⟩ hp G h1 h2;exact Qz (QT QHQ) 0 G _ h1
theorem QSE:Jo (mkE Try.prog Ws) Try.f60 8 HN (fun x_=>(hnd (mkE Try.prog Ws) 0)):=by
 refine⟨?_⟩;rintro⟨l,⟨⟩⟩ hp;refine⟨⟨rfl,by simp[HN],rfl⟩,⟨?_⟩⟩
 rw[Qbm l];simp only[HN]at hp;exact QF (by simpa using hp) (JE (QEL _) rfl)
theorem QTJ:QQ Try.prog 60 QKZ:=
 Jx (QT QHQ) Try.func60 (by kernel_rfl) (by kernel_rfl) (by decide) QZy QSE
def Xb:Tab:=Qe Ws 60 QKZ
theorem Gn:Qc Xb:=QHQ.add QTJ
def Ke{α:Type}[QA α](ty k:Nat)(l:List α)(d:α):Nat×Blk:=(k,.rowz true ty (QA.ks α) l.length fun i=>QA.enc (l.getD i d))
def K2(q:Nat→Bool):Nat→List Int
 | 0=>[]
 | k+1=>match q k with
  | true=>K2 q k++[(k:Int)]
  | false=>K2 q k
theorem QI8(q:Nat→Bool):∀ k,(K2 q k).length≤k
 | 0=>qlr _
 | k+1=>by
  have:=QI8 q k;simp only[K2];split<;>simp<;>omega
def JK(l:Rw Edge)(i:Nat):Bool:=decide (Xh p s (l.get i)≥least)
def WJ(l:Rw Edge)(o:List Int)(k:Int):JSt:=
 ⟨30,[(2,.int false .i64 least),(4,.ptr 8 0 0),(5,.ptr 16 0 0),(8,.slz 24 0 o.length (.of 0)),(11,.slz 3 0 l.n (.of 0)),(12,.int false .i64 l.n),(13,.int false .i64 k)],
  [(8,.cells 0 25 (Enc.enc p).cells),(16,.cells 0 30 (Enc.enc s).cells),Ke 3 24 o 0]++Q3.blk 3 l,32⟩
def QLH:Ex→List Nat
 | .normal=>[2,4,5,8,11,12,13]
 | _=>[8]
noncomputable abbrev QOb:Nat×Blk:=
  (8,.cells 0 25 [vi p.length,vi p.slack,vi p.loose,vi p.damp.lo,vi p.damp.hi])
noncomputable abbrev QL2:Nat×Blk:=
  (16,.cells 0 30 [vi s.kind,vi s.at_.lo,vi s.at_.hi,vi s.wide.lo,vi s.wide.hi,vi s.deep.lo,.int
  false .i64 s.deep.hi])
noncomputable abbrev QRD:Nat×Blk:=
  (3,.frz [.int .i64,.int .i64,.int .i64,.int .i64,.int .i64,.int .i64,.int .i64] l.n fun i=>QA.enc (l.get i))
theorem QSQ(l:Rw Edge)(o:List Int)(k:Nat)(g:Nat→Value):exec (mkE Try.prog Xb) (hnd (mkE Try.prog Xb) 0) (Qd Try.f91 0) (JSt.inst (WJ p s least l o k) g) (KS [] QLH) = .br (decide ((k:Int)<(l.n:Int))) (.need
  (decide ((0:Int)≤(k:Int)∧(k:Int)<(l.n:Int))&&decide (l.n≤l.n)) (.need (decide (k<l.n)) (.need (okP p s (l.get k)) (.br (decide (Xh p s (l.get k)≥least))
  (.need (decide (o.length≤o.length)&&(true&&decide ((o.length+1+(o.length+1) / 4+192)*8≤281474976710656∧o.length+1≤9223372036854775807))) (.leaf (.tup [.nilp,
  .ptr 30 0 0,vi least,.ptr 8 0 0,.ptr 16 0 0,.slz 160 0 (o.length+1) cO,.slz 3 0 l.n cO,vi (l.n:Int),.int false .i64
  (i64.wrap ((k:Int)+1))]) ([(QOb p),(QL2 s),(160,.rowz true 3 [.int .i64] (o.length+1) (QY o.length (fun i=>QA.enc (o.getD i 0)) (QR [[vi (k
  : Int)]] 0))),(QRD l)]))) (.leaf (.tup [.nilp,.ptr 30 0 0,vi least,.ptr 8 0 0,.ptr 16 0 0,.slz 24 0 o.length cO,.slz 3 0 l.n cO,.int false .i64
  (l.n:Int),vi (i64.wrap ((k:Int)+1))]) ([(QOb p),(QL2 s),(24,.rowz true 3 [.int .i64] o.length fun i=>QA.enc (o.getD i 0)),(QRD l)]))))))
  (.leaf (.tup [.ptr 0 0 0,.ptr 30 0 0,.slz 24 0 o.length cO]) ([(24,.rowz true 3 [.int .i64] o.length fun i=>QA.enc (o.getD i 0))])):=by kernel_rfl
theorem QXh(x:Int):QC 1 (o++[x]).length (QY o.length (fun i=>QA.enc (o.getD i 0)) (QR [[AV.int false i64 x]] 0)) (fun i=>QA.enc ((o++[x]).getD i 0)):=by
 intro i hi;refine⟨?_,trivial⟩;rw[VX];rw[List.length_append,List.length_singleton]at hi;split
 ·rename_i h;show o.getD i 0=(o++[x]).getD i 0;rw[List.getD_eq_getElem?_getD,List.getD_eq_getElem?_getD,List.getElem?_append_left h]
 ·rename_i h;have:i=o.length:=by omega
  subst this;show x=(o++[x]).getD o.length 0;simp
theorem QYg(l:Rw Edge)(n:Nat)(g:Nat→Nat→Int)(i:Int)(o:List Int)(k:Int):QK 8 [vi least,.ptr 8 0 0,.ptr 16 0 0,.slz 24 0 n cO,.slz 3 0 l.n cO,vi l.n,vi i] ([(8,.cells 0 25 (Enc.enc p).cells),(16,.cells 0 30 (Enc.enc s).cells),(24,.rowz true 3 [.int .i64] n g)]++Q3.blk 3 l) (WJ p s least l o k)=(
  some [least=least,(0:Nat)=(0:Nat),(0:Nat)=(0:Nat),(0:Nat)=(0:Nat),(0:Nat)=(0:Nat),(0:Nat)=(0:Nat),n=o.length,Cap.of (0:Nat)=Cap.of (0 :
  Nat),(0:Nat)=(0:Nat),l.n=l.n,Cap.of (0:Nat)=Cap.of (0:Nat),(↑l.n:Int)=(↑l.n:Int),i=k,p.length=p.length,p.slack=p.slack,p.loose=p.loose,p.damp.lo
  = p.damp.lo,p.damp.hi=p.damp.hi,s.kind=s.kind,s.at_.lo=s.at_.lo,s.at_.hi=s.at_.hi,s.wide.lo=s.wide.lo,s.wide.hi=s.wide.hi,s.deep.lo=s.deep.lo,s.deep.hi =
  s.deep.hi,o.length≤n,QC (1:Nat) o.length g fun i=>QA.enc (o.getD i (0:Int)),l.n≤l.n,QC (7:Nat) l.n (fun i=>QA.enc (l.get i)) fun i=>QA.enc (l.get
  i)]):=by kernel_rfl
theorem QZA(l:Rw Edge)(n:Nat)(g:Nat→Nat→Int)(i:Int)(o:List Int)(k:Int):QK 8 [vi least,.ptr 8 0 0,.ptr 16 0 0,.slz 160 0 n cO,.slz 3 0 l.n cO,vi l.n,vi i] ([(8,.cells 0 25 (Enc.enc p).cells),(16,.cells 0 30 (Enc.enc s).cells),(160,.rowz true 3 [.int .i64] n g)]++Q3.blk 3 l) (WJ p s least l o k)=(
  some [least=least,(0:Nat)=(0:Nat),(0:Nat)=(0:Nat),(0:Nat)=(0:Nat),(0:Nat)=(0:Nat),(0:Nat)=(0:Nat),n=o.length,Cap.of (0:Nat)=Cap.of (0 :
  Nat),(0:Nat)=(0:Nat),l.n=l.n,Cap.of (0:Nat)=Cap.of (0:Nat),(↑l.n:Int)=(↑l.n:Int),i=k,p.length=p.length,p.slack=p.slack,p.loose=p.loose,p.damp.lo
  = p.damp.lo,p.damp.hi=p.damp.hi,s.kind=s.kind,s.at_.lo=s.at_.lo,s.at_.hi=s.at_.hi,s.wide.lo=s.wide.lo,s.wide.hi=s.wide.hi,s.deep.lo=s.deep.lo,s.deep.hi =
  s.deep.hi,o.length≤n,QC (1:Nat) o.length g fun i=>QA.enc (o.getD i (0:Int)),l.n≤l.n,QC (7:Nat) l.n (fun i=>QA.enc (l.get i)) fun i=>QA.enc (l.get
  i)]):=by kernel_rfl
def vl:JSt:=⟨30,[(8,.slz 24 0 o.length (.of 0))],[Ke 3 24 o 0],32⟩
theorem QbC(n:Nat)(g:Nat→Nat→Int)(o:List Int):QK 8 [.slz 24 0 n cO] [(24,.rowz true 3 [.int .i64] n g)] (vl o)=(
  some [(0:Nat)=(0:Nat),n=o.length,Cap.of (0:Nat)=Cap.of (0:Nat),o.length≤n,QC (1:Nat) o.length g fun i=>QA.enc (o.getD i (0:Int))]):=by kernel_rfl
def QHH:Prop:=p.ok=true∧s.ok=true∧Yl (fun i=>(l.get i).ok) l.n=true∧l.n≤1000
theorem QSL(l:Rw Edge)(hl:QHH p s l):Ji (fun k:Nat=>WJ p s least l (K2 (JK p s least l) k) k) (fun k=>k≤l.n) (fun k=>l.n-k) (fun _ e J=>e = .exit 0∧J=vl (K2 (JK p s least l) l.n)) 8 QLH [] (mkE Try.prog Xb) (fun _=>hnd (mkE Try.prog Xb) 0) (Qd Try.f91 0):=by
 obtain⟨h1,h2,h3,h4⟩:=hl;refine⟨fun k g hk=>⟨Ga (QSQ p s least l _ k g) ?_⟩⟩;have hlen:=QI8 (JK p s least l) k;refine QI (fun h => ?_) (fun h => ?_)
 ·have h:k<l.n:=by have:=qdt h;omega
  have hw:i64.wrap ((k:Int)+1)=((k+1:Nat):Int):=(w64 (by omega) (by omega)).trans (by omega)
  refine QF (by simp;omega) (QF (by simp;omega) (QF (by simp only[okP,h1,h2,Qaz h3 h];rfl) (QI (fun hb => ?_) (fun hb => ?_))))
  ·have e:K2 (JK p s least l) (k+1)=K2 (JK p s least l) k++[(k:Int)]:=by simp only[K2,JK];rw[hb]
   refine QF (by simp;omega) ⟨k+1,h,by show l.n-(k+1)<l.n-k;omega,fun _ _ h=>h,rfl,rfl,_,QZA _ _ _ _ _ _ _ _ _,?_⟩
   rw[e]
   repeat' first|exact trivial|with_reducible rfl|exact qlr _|exact qRr|exact hw|refine And.intro ?_ ?_
   ·simp
   ·simp
   ·exact QXh _ _
  ·have e:K2 (JK p s least l) (k+1)=K2 (JK p s least l) k:=by simp only[K2,JK];rw[hb]
   refine⟨k+1,h,by show l.n-(k+1)<l.n-k;omega,fun _ _ h=>h,rfl,rfl,_,QYg _ _ _ _ _ _ _ _ _,?_⟩
   rw[e]
   repeat' first|exact trivial|with_reducible rfl|exact qlr _|exact qRr|exact hw|refine And.intro ?_ ?_
 ·have:k=l.n:=by have:=of_decide_eq_false h;omega
  subst this;refine⟨_,⟨rfl,rfl⟩,rfl,rfl,_,QbC _ _ _,?_⟩
  repeat' first|exact trivial|with_reducible rfl|exact qlr _|exact qRr|refine And.intro ?_ ?_
theorem QWI(l:Rw Edge)(hl:QHH p s l)(G:Ctx)(hrd:G.rd=none)(hG:G.n=8):KH (mkE Try.prog Xb) G { hnd (mkE Try.prog Xb) 1 with loop:=fun _=>KN 8 [] (WJ p s least l [] (0:Nat)) [(True,.exit 0,vl (K2 (JK p s least l) l.n))] } (Qr Try.f91):=by
 refine Jd (body:=Qd Try.f91 0) (QT Gn) hrd (by kernel_rfl) ?_
 refine Ju (n0:=8) (QT Gn) (by omega) (fun s hs=>Qz (QT Gn) 0 G _ hrd) (fun s hs=>(by decide:8≤32)) ?_ (QSL p s least l hl) (s0:=0) (Nat.zero_le _) ?_
 ·rintro s e J ⟨_,rfl⟩;exact(by decide:8≤32)
 ·rintro e J ⟨rfl,rfl⟩;exact⟨_,List.mem_cons_self,trivial,rfl,rfl⟩
theorem QaK:QK 8 [.slz 24 0 o.length cO] [(24,.rowz true 3 [.int .i64] o.length fun i=>QA.enc (o.getD i 0))] (Km 8 (.slz 0 0 o.length cO) [Ke 3 0 o 0])=(
  some [(0:Nat)=(0:Nat),o.length=o.length,Cap.of (0:Nat)=Cap.of (0:Nat),o.length≤o.length,QC (1:Nat) o.length (fun i=>QA.enc (o.getD i (0:Int))) fun i
  => QA.enc (o.getD i (0:Int))]):=by kernel_rfl
def zT:WF (Qm×Edge×Int×(Rw Edge)×Unit):=fun|(p,(s,(least,(l,_))))=>(p.ok&&s.ok&&Yl (fun i=>(l.get i).ok) l.n&&decide (l.n≤1000),.slz 0 0 (K2 (JK p s least l) l.n).length (.of 0),[Ke 3 0 (K2 (JK p s least l) l.n) 0])
def QLq:FC:=wFC zT
theorem QXM(l:(Rw Edge)):Kc (mkE Try.prog Xb) { hnd (mkE Try.prog Xb) 1 with loop:=fun _=>KN 8 [] (WJ p s least l [] (0:Nat)) [(True,.exit 0,vl (K2 (JK p s least l)
  l.n))] } Try.f91 (QX.vals 0 ((p,s,least,l,()):Qm×Edge×Int×(Rw Edge)×Unit)) (QX.blks 0 ((p,s,least,l,()):Qm×Edge×Int×(Rw Edge)×Unit)) 8 = .ask
  (least=least) (.ask (0=0) (.ask (0=0) (.ask (0=0) (.ask (0=0) (.ask (0=0) (.ask (0=0) (.ask (l.n=l.n) (.ask (cO=cO) (.ask ((l.n:Int)=(l.n:Int))
  (.ask ((0:Int)=0) (.ask (p.length=p.length) (.ask (p.slack=p.slack) (.ask (p.loose=p.loose) (.ask (p.damp.lo=p.damp.lo) (.ask (p.damp.hi=p.damp.hi) (.ask (s.kind =
  s.kind) (.ask (s.at_.lo=s.at_.lo) (.ask (s.at_.hi=s.at_.hi) (.ask (s.wide.lo=s.wide.lo) (.ask (s.wide.hi=s.wide.hi) (.ask (s.deep.lo=s.deep.lo) (.ask (s.deep.hi =
  s.deep.hi) (.ask (0=0) (.ask (l.n≤l.n) (.ask (QC 7 l.n (fun i=>QA.enc (l.get i)) fun i=>QA.enc (l.get i)) (.asm (True) (.all (fun(g0:Nat→Value) => .leaf (.slz
  24 0 (K2 (JK p s least l) l.n).length cO) ([(24,.rowz true 3 [.int .i64] (K2 (JK p s least l) l.n).length fun i=>QA.enc ((K2 (JK p s least l)
  l.n).getD i 0))]))))))))))))))))))))))))))))):=by kernel_rfl
theorem QTG:Jr (mkE Try.prog Xb) (Qr Try.f91) 8 zT (fun x_=>{ hnd (mkE Try.prog Xb) 1 with loop:=fun _=>KN 8 [] (WJ x_.1 x_.2.1 x_.2.2.1 x_.2.2.2.1 [] (0:Nat)) [(True,.exit 0,vl (K2 (JK x_.1 x_.2.1 x_.2.2.1 x_.2.2.2.1) x_.2.2.2.1.n))] }):=by
 refine⟨?_⟩;rintro⟨p,⟨s,⟨least,⟨l,⟨⟩⟩⟩⟩⟩ hp G h1 h2;exact QWI p s least l (by simpa[zT,QHH,and_assoc]using hp) G h1 h2
theorem Qb0:Jo (mkE Try.prog Xb) Try.f91 8 zT (fun x_=>{ hnd (mkE Try.prog Xb) 1 with loop:=fun _=>KN 8 [] (WJ x_.1 x_.2.1 x_.2.2.1 x_.2.2.2.1 [] (0:Nat)) [(True,.exit 0,vl (K2 (JK x_.1 x_.2.1 x_.2.2.1 x_.2.2.2.1) x_.2.2.2.1.n))] }):=by
 refine⟨?_⟩;rintro⟨p,⟨s,⟨least,⟨l,⟨⟩⟩⟩⟩⟩ hp;refine⟨⟨rfl,by simp[zT,Ke,Blk.own,Blk.all],rfl⟩,⟨?_⟩⟩
 rw[QXM p s least l];simp only[zT]at hp
 repeat' first|refine Qb (by with_reducible rfl) ?_|refine Qb (qlr _) ?_|refine Qb (qRr) ?_
 refine KO fun _=>KK fun g=>⟨rfl,rfl,_,QaK _,?_⟩
 repeat' first|exact trivial|with_reducible rfl|exact qlr _|exact qRr|refine And.intro ?_ ?_
theorem QS0:QQ Try.prog 91 QLq:=
 Jx (QT Gn) Try.func91 (by kernel_rfl) (by kernel_rfl) (by decide) QTG Qb0
def Z8:Tab:=Qe Xb 91 QLq
theorem QD7:Qc Z8:=Gn.add QS0
def Xa:Bool:=p.ok&&(s.ok&&Yl (fun i=>(l.get i).ok) l.n)
def YX:Int:=match Xa p s l with
 | true=>(match decide (l.n>40)with|true=>3|false=>0)
 | false=>1
def VP(l:Rw Edge):List Int:=match Xa p s l&&decide (l.n≤40)with
 | true=>K2 (JK p s least l) l.n
 | false=>[]
theorem QbW(e f:Int)(o q:List Int):QK 8 [.tup [.nils,.nils,vj e]] [] (Km 8 (.tup [.slz 0 0 o.length cO,.slz 1 0 q.length cO,vi f]) [Ke 3 0 o 0,Ke 3 1 q 0])=(
  some [o.length=(0:Nat),q.length=(0:Nat),e=f,o.length=(0:Nat),q.length=(0:Nat)]):=by kernel_rfl
theorem QVT(n m:Nat)(g h:Nat→Nat→Int)(e f:Int)(o q:List Int):QK 8 [.tup [.slz 216 0 n cO,.slz 248 0 m cO,vj e]] [(216,.rowz true 3 [.int .i64] n g),(248,.rowz true 3 [.int .i64] m h)] (Km 8 (.tup [.slz 0 0 o.length cO,.slz 1 0 q.length cO,vi f]) [Ke 3 0 o 0,Ke 3 1 q 0])=(
  some [(0:Nat)=(0:Nat),n=o.length,Cap.of (0:Nat)=Cap.of (0:Nat),(0:Nat)=(0:Nat),m=q.length,Cap.of (0:Nat)=Cap.of (0:Nat),e=f,o.length≤n,QC
  (1:Nat) o.length g fun i=>QA.enc (o.getD i (0:Int)),q.length≤m,QC (1:Nat) q.length h fun i=>QA.enc (q.getD i (0:Int))]):=by kernel_rfl
def qZ:WF (Qm×Edge×(Rw Edge)×Unit):=fun|(p,(s,(l,_)))=>(decide (l.n≤1000),.tup [.slz 0 0 (VP p s 2 l).length (.of 0),.slz 1 0 (VP p s 1 l).length (.of 0),.int false .i64 (YX p s l)],[Ke 3 0 (VP p s 2 l) 0,Ke 3 1 (VP p s 1 l) 0])
def QPR:FC:=wFC qZ
theorem QW7(l:(Rw Edge)):Kc (mkE Try.prog Z8) (hnd (mkE Try.prog Z8) 0) Try.f72 (QX.vals 0 ((p,s,l,()):Qm×Edge×(Rw Edge)×Unit)) (QX.blks 0 ((p,s,l,()):Qm×Edge ×
  (Rw Edge)×Unit)) 8 = .need (true) (.br (!p.ok) (.leaf (.tup [.nils,.nils,vj 1]) ([])) (.need (true) (.br (!s.ok) (.leaf (.tup [.nils,.nils,vj 1]) ([]))
  (.need (decide (l.n≤l.n)&&true&&decide (l.n≤1000)) (.br (!Yl (fun i=>(l.get i).ok) l.n) (.leaf (.tup [.nils,.nils,vj 1]) ([])) (.br (decide ((l.n:Int) >
  40)) (.leaf (.tup [.nils,.nils,vj 3]) ([])) (.need (true&&(true&&(true&&(decide (l.n≤l.n)&&true)))&&(p.ok&&s.ok&&Yl (fun i=>(l.get i).ok) l.n &&
  decide (l.n≤1000))) (.need (true&&(true&&(true&&(decide (l.n≤l.n)&&true)))&&(p.ok&&s.ok&&Yl (fun i=>(l.get i).ok) l.n&&decide (l.n≤1000))) (.leaf (.tup
  [.slz 216 0 (K2 (JK p s (2:Int) l) l.n).length cO,.slz 248 0 (K2 (JK p s (1:Int) l) l.n).length cO,vj 0]) ([(216,.rowz true 3 [.int
  .i64] (K2 (JK p s (2:Int) l) l.n).length fun i=>QA.enc ((K2 (JK p s (2:Int) l) l.n).getD i 0)),(248,.rowz true 3 [.int .i64] (K2 (JK p s (1:Int) l)
  l.n).length fun i=>QA.enc ((K2 (JK p s (1:Int) l) l.n).getD i 0))])))))))))):=by kernel_rfl
theorem QUb:Jr (mkE Try.prog Z8) (Qr Try.f72) 8 qZ (fun x_=>(hnd (mkE Try.prog Z8) 0)):=by
 refine⟨?_⟩;rintro⟨p,⟨s,⟨l,⟨⟩⟩⟩⟩ hp G h1 h2;exact Qz (QT QD7) 0 G _ h1
theorem QWg:Jo (mkE Try.prog Z8) Try.f72 8 qZ (fun x_=>(hnd (mkE Try.prog Z8) 0)):=by
 refine⟨?_⟩;rintro⟨p,⟨s,⟨l,⟨⟩⟩⟩⟩ hp;refine⟨⟨rfl,by simp[qZ,Ke,Blk.own,Blk.all],rfl⟩,⟨?_⟩⟩
 rw[QW7 p s l];simp only[qZ]at hp;have hn:l.n≤1000:=qdt hp
 have no:∀ e:Int,VP p s 2 l=[]→VP p s 1 l=[]→YX p s l=e→(QD.leaf (AV.tup [AV.nils,AV.nils,AV.int true i64 e]) []).den (XG 8 (qZ (p,s,l,())).2.1 (qZ (p,s,l,())).2.2):=by
  intro e h1 h2 h3;refine⟨rfl,rfl,_,QbW _ _ _ _,?_⟩;rw[h1,h2,h3];exact⟨rfl,rfl,rfl,rfl,rfl,trivial⟩
 refine QF rfl (QI (fun h => ?_) (fun h=>QF rfl (QI (fun h2 => ?_) (fun h2=>QF (by simpa using hn) (QI (fun h3 => ?_) (fun h3=>QI (fun h4 => ?_) (fun h4 => ?_)))))))
 ·have e:Xa p s l=false:=by simp[Xa]at h ⊢;simp[h]
  exact no 1 (by simp[VP,e]) (by simp[VP,e]) (by simp[YX,e])
 ·have e:Xa p s l=false:=by simp[Xa]at h2 ⊢;simp[h2]
  exact no 1 (by simp[VP,e]) (by simp[VP,e]) (by simp[YX,e])
 ·have e:Xa p s l=false:=by simp[Xa]at h3 ⊢;simp[h3]
  exact no 1 (by simp[VP,e]) (by simp[VP,e]) (by simp[YX,e])
 ·have h4:l.n>40:=by have:=qdt h4;omega
  have e1:decide (l.n>40)=true:=decide_eq_true h4;have e2:decide (l.n≤40)=false:=decide_eq_false (by omega)
  have e:Xa p s l=true:=by simp[Xa]at h h2 h3 ⊢;exact⟨h,h2,h3⟩
  exact no 3 (by simp only[VP,e,e2];rfl) (by simp only[VP,e,e2];rfl) (by simp only[YX,e,e1])
 ·have h4:¬ l.n>40:=by have:=of_decide_eq_false h4;omega
  have e1:decide (l.n>40)=false:=decide_eq_false h4;have e2:decide (l.n≤40)=true:=decide_eq_true (by omega)
  have e:Xa p s l=true:=by simp[Xa]at h h2 h3 ⊢;exact⟨h,h2,h3⟩
  have hq:(p.ok&&s.ok&&Yl (fun i=>(l.get i).ok) l.n&&decide (l.n≤1000))=true:=by simp at h h2 h3;simp[h,h2,h3,hn]
  refine QF (by simp only[hq];simp) (QF (by simp only[hq];simp) ⟨rfl,rfl,_,QVT _ _ _ _ _ _ _ _,?_⟩)
  have k2:VP p s 2 l=K2 (JK p s 2 l) l.n:=by simp only[VP,e,e2];rfl
  have k1:VP p s 1 l=K2 (JK p s 1 l) l.n:=by simp only[VP,e,e2];rfl
  have k3:YX p s l=0:=by simp only[YX,e,e1]
  rw[k1,k2,k3]
  repeat' first|exact trivial|with_reducible rfl|exact qlr _|exact qRr|refine And.intro ?_ ?_
theorem QSP:QQ Try.prog 72 QPR:=
 Jx (QT QD7) Try.func72 (by kernel_rfl) (by kernel_rfl) (by decide) QUb QWg
def QAs:Tab:=Qe Z8 72 QPR
theorem QQz:Qc QAs:=QD7.add QSP
def com(x y:Sp):Bool:=decide (x.lo≤y.hi)&&decide (y.lo≤x.hi)
def isF(b s:Edge):Bool:=(b.kind==s.kind)&&(com b.at_ s.at_&&(com b.wide s.wide&&com b.deep s.deep))
def QH1:Edge×Edge×Unit→Bool×AV:=fun|(b,(s,_))=>(true,.bool false (isF b s))
def QLF:FC:=KD (KE QH1)
theorem QU8(b:Edge)(s:Edge):Q8 (mkE Try.prog QAs) (hnd (mkE Try.prog QAs) 3) false Try.f125 (Qt.enc ((b,s,()):Edge×Edge×Unit)) [] 0 =
  QD.br (b.kind==s.kind) (QD.br (decide (b.at_.lo≤s.at_.hi)) (QD.br (decide (s.at_.lo≤b.at_.hi)) (QD.br (decide (b.wide.lo≤s.wide.hi)) (QD.br (decide (s.wide.lo ≤
  b.wide.hi)) (QD.br (decide (b.deep.lo≤s.deep.hi)) (QD.leaf (AV.bool false (decide (s.deep.lo≤b.deep.hi))) ([])) (QD.leaf (AV.bool true false) ([]))) (QD.leaf (AV.bool
  true false) ([]))) (QD.leaf (AV.bool true false) ([]))) (QD.leaf (AV.bool true false) ([]))) (QD.leaf (AV.bool true false) ([]))) (QD.leaf (AV.bool true false) ([])):=by kernel_rfl
theorem QZV:QQ Try.prog 125 QLF:=by
 refine KQ QQz 3 Try.func125 (by kernel_rfl) (by kernel_rfl) ?_
 rintro⟨b,s,⟨⟩⟩ hp;rw[QU8 b s];simp only[QH1,QD.den,AV.same,AV.sameL,and_true,true_and]at hp ⊢;simp only[isF,com];generalize (b.kind==s.kind)=x1;generalize decide (b.at_.lo≤s.at_.hi)=x2
 generalize decide (s.at_.lo≤b.at_.hi)=x3
 generalize decide (b.wide.lo≤s.wide.hi)=x4;generalize decide (s.wide.lo≤b.wide.hi)=x5;generalize decide (b.deep.lo≤s.deep.hi)=x6;generalize decide (s.deep.lo≤b.deep.hi)=x7;cases x1<;>cases x2<;>cases x3<;>cases x4<;>cases x5<;>cases x6<;>cases x7<;>simp
def XS:Tab:=Qe QAs 125 QLF
theorem HY:Qc XS:=QQz.add QZV
structure QG where
 up:Edge
 right:Edge
 down:Edge
 left:Edge
def QG.ok(p:QG):Bool:=p.up.ok&&(p.right.ok&&(p.down.ok&&p.left.ok))
instance : QA QG where
  ks := [.int .i64,.int .i64,.int .i64,.int .i64,.int .i64,.int .i64,.int .i64,.int .i64,.int .i64,.int .i64,.int .i64,.int .i64,.int .i64,.int .i64,.int .i64,.int .i64,.int .i64,.int .i64,.int .i64,.int .i64,.int .i64,.int .i64,.int .i64,.int .i64,.int .i64,.int .i64,.int .i64,.int .i64]
  enc p j := match j with
    | 0 => p.up.kind
    | 1 => p.up.at_.lo
    | 2 => p.up.at_.hi
    | 3 => p.up.wide.lo
    | 4 => p.up.wide.hi
    | 5 => p.up.deep.lo
    | 6 => p.up.deep.hi
    | 7 => p.right.kind
    | 8 => p.right.at_.lo
    | 9 => p.right.at_.hi
    | 10 => p.right.wide.lo
    | 11 => p.right.wide.hi
    | 12 => p.right.deep.lo
    | 13 => p.right.deep.hi
    | 14 => p.down.kind
    | 15 => p.down.at_.lo
    | 16 => p.down.at_.hi
    | 17 => p.down.wide.lo
    | 18 => p.down.wide.hi
    | 19 => p.down.deep.lo
    | 20 => p.down.deep.hi
    | 21 => p.left.kind
    | 22 => p.left.at_.lo
    | 23 => p.left.at_.hi
    | 24 => p.left.wide.lo
    | 25 => p.left.wide.hi
    | 26 => p.left.deep.lo
    | _ => p.left.deep.hi
  dec f := ⟨⟨f 0,⟨f 1,f 2⟩,⟨f 3,f 4⟩,⟨f 5,f 6⟩⟩,⟨f 7,⟨f 8,f 9⟩,⟨f 10,f 11⟩,⟨f 12,f 13⟩⟩,⟨f 14,⟨f 15,f 16⟩,⟨f 17,f 18⟩,⟨f 19,f 20⟩⟩,⟨f 21,⟨f 22,f 23⟩,⟨f 24,f 25⟩,⟨f 26,f 27⟩⟩⟩
  ok _ := rfl
instance : Enc QG where
  enc p := .agg [.int false .i64 p.up.kind,.int false .i64 p.up.at_.lo,.int false .i64 p.up.at_.hi,.int false .i64 p.up.wide.lo,.int false .i64 p.up.wide.hi,.int false .i64 p.up.deep.lo,.int false .i64 p.up.deep.hi,.int false .i64 p.right.kind,.int false .i64 p.right.at_.lo,.int false .i64 p.right.at_.hi,.int false .i64 p.right.wide.lo,.int false .i64 p.right.wide.hi,.int false .i64 p.right.deep.lo,.int false .i64 p.right.deep.hi,.int false .i64 p.down.kind,.int false .i64 p.down.at_.lo,.int false .i64 p.down.at_.hi,.int false .i64 p.down.wide.lo,.int false .i64 p.down.wide.hi,.int false .i64 p.down.deep.lo,.int false .i64 p.down.deep.hi,.int false .i64 p.left.kind,.int false .i64 p.left.at_.lo,.int false .i64 p.left.at_.hi,.int false .i64 p.left.wide.lo,.int false .i64 p.left.wide.hi,.int false .i64 p.left.deep.lo,.int false .i64 p.left.deep.hi]
  dec
    | .agg [.int _ .i64 a0,.int _ .i64 a1,.int _ .i64 a2,.int _ .i64 a3,.int _ .i64 a4,.int _ .i64 a5,.int _ .i64 a6,.int _ .i64 a7,.int _ .i64 a8,.int _ .i64 a9,.int _ .i64 a10,.int _ .i64 a11,.int _ .i64 a12,.int _ .i64 a13,.int _ .i64 a14,.int _ .i64 a15,.int _ .i64 a16,.int _ .i64 a17,.int _ .i64 a18,.int _ .i64 a19,.int _ .i64 a20,.int _ .i64 a21,.int _ .i64 a22,.int _ .i64 a23,.int _ .i64 a24,.int _ .i64 a25,.int _ .i64 a26,.int _ .i64 a27] => some ⟨⟨a0,⟨a1,a2⟩,⟨a3,a4⟩,⟨a5,a6⟩⟩,⟨a7,⟨a8,a9⟩,⟨a10,a11⟩,⟨a12,a13⟩⟩,⟨a14,⟨a15,a16⟩,⟨a17,a18⟩,⟨a19,a20⟩⟩,⟨a21,⟨a22,a23⟩,⟨a24,a25⟩,⟨a26,a27⟩⟩⟩
    | _ => none
  ok v x h := by
    split at h <;> (try (cases h; done))
    simp only[qsI]at h; subst h;exact⟨fun _ => rfl,rfl⟩
structure Puz where
 play:Qm
 wide:Int
 high:Int
 turn:Bool
 ps:Rw QG
instance : Q3 Puz where
  val k x := .agg [.int false .i64 x.play.length,.int false .i64 x.play.slack,.int false .i64 x.play.loose,.int false .i64 x.play.damp.lo,.int false .i64 x.play.damp.hi,.int false .i64 x.wide,.int false .i64 x.high,.bool false x.turn,Q3.val k x.ps]
  blk k x := Q3.blk k x.ps
  dec v lk := match v with
    | .agg [.int _ .i64 a,.int _ .i64 b,.int _ .i64 c,.int _ .i64 d,.int _ .i64 e,.int _ .i64 f,.int _ .i64 g,.bool _ t,s] => (match (Q3.dec s lk : Option (Bool × Rw QG))with
      | some (p,x) => some (p,⟨⟨a,b,c,⟨d,e⟩⟩,f,g,t,x⟩)
      | none => none)
    | _ => none
  ok v lk p x h hp := by
    split at h <;> (try (cases h; done))
    split at h <;> (try (cases h; done))
    rename_i a b c d e f g t s p' x' hd;simp only[qsI,qpI]at h;obtain⟨rfl,rfl⟩ := h;obtain⟨h1,h2⟩ := Q3.ok _ _ _ _ hd hp;refine⟨fun k => ⟨?_,(h1 k).2⟩,fun r w hb => ?_⟩
    · have := (h1 k).1
      simp only[AV.all,AV.allL,Bool.true_and,Bool.and_true]; exact this
    · obtain⟨l,hl⟩ := h2 r w hb
      refine⟨l,fun k r' hr => ⟨?_,(hl k r' hr).2⟩⟩;have := (hl k r' hr).1;simp only[AV.den,AV.denL]at this ⊢;rw[this]
def QIj:AV→Bool
 | .agg _=>true
 | _=>false
theorem QRb{v:AV}(h:QIj v=true):∃ l,v = .agg l:=by
 cases v<;>first|(cases h;done)|exact⟨_,rfl⟩
structure FnC (α:Type) (g ty:Nat) where
 x:α
instance {α : Type} [Enc α] (g ty : Nat) : Q3 (FnC α g ty) where
  val k _ := .fn (.func g) [.ptr k 0 0]
  blk k x := [(k,.cellsR 0 ty (Enc.enc x.x).cells)]
  dec v lk := match v with
    | .fn (.func g') [.ptr id e j] => (match Nat.beq g' g && (Nat.beq e 0 && Nat.beq j 0)with
      | true => (match lk id with
        | some (.cellsR z ty' l) => (match Nat.beq ty' ty && Nat.beq z 0 with
          | true => (match (Enc.dec (.agg l) : Option α)with
            | some a => (match QIj (Enc.enc a)with | true => some (true,⟨a⟩) | false => none)
            | none => none)
          | false => none)
        | _ => none)
      | false => none)
    | _ => none
  ok v lk p x h _ := by
    split at h <;> (try (cases h; done))
    rename_i g' id e j;split at h <;> (try (cases h; done))
    rename_i hg;split at h <;> (try (cases h; done))
    rename_i z ty' l hlk;split at h <;> (try (cases h; done))
    rename_i hz;split at h <;> (try (cases h; done))
    rename_i a ha;split at h <;> (try (cases h; done))
    rename_i hagg;simp only[qbA]at hg hz;have hg1 := Nat.eq_of_beq_eq_true hg.1;have he := Nat.eq_of_beq_eq_true hg.2.1;have hj := Nat.eq_of_beq_eq_true hg.2.2;have ht := Nat.eq_of_beq_eq_true hz.1;have hz0 := Nat.eq_of_beq_eq_true hz.2;subst hg1 he hj ht hz0;simp only[qsI,qpI]at h;obtain⟨_,rfl⟩ := h;obtain⟨k1,k2⟩ := Enc.ok _ _ ha;obtain⟨l',hl'⟩ := QRb hagg;rw[hl']at k1 k2;have hcl : (Enc.enc a).cells = l' := by rw[hl']; rfl
    have k3 : ∀ r,AV.denL r l' = AV.denL r l := fun r => by
      have := k1 r;simp only[AV.den,Value.agg.injEq]at this;exact Array.toList_inj.2 this |> fun h => by simpa using h
    refine⟨fun k => ⟨by simp[AV.all,AV.allL],fun q hq => ?_⟩,fun r w hb => ⟨r id,fun k r' hr => ⟨?_,fun q hq => ?_⟩⟩⟩
    · simp only[List.mem_singleton]at hq; subst hq
      refine⟨rfl,rfl,?_⟩;show AV.allL _ (Enc.enc a).cells = true;rw[hcl]; exact k2
    · simp only[AV.den,AV.denL,hr]
    · simp only[List.mem_singleton]at hq; subst hq
      obtain⟨b1,b2,b3⟩ := hb _ _ hlk;refine⟨by rw[hr]; exact b1,by rw[hr]; exact b2,?_⟩
      show bk w (r' k).blk = some (.cells (AV.denL r' (Enc.enc a).cells).toArray _ _);rw[hr,hcl,denL_congr (p := fun _ => false) (r := r') (r' := r) (fun _ hf => by cases hf) _ k2,k3 r]
      exact b3
abbrev VL:Type:=FnC Qm 71 25
def JS:Edge:=⟨0,⟨0,0⟩,⟨0,0⟩,⟨0,0⟩⟩
def JI(m:VL)(l:Rw QG)(i:Nat):Bool := !(m.x.ok&&(l.get i).ok)
theorem QKo(x:QG)(L:Rw Edge)(hn:L.n=4)(h0:L.get 0=x.up)(h1:L.get 1=x.right)(h2:L.get 2=x.down)(h3:L.get 3=x.left):(YX p JS L != 0) = !(p.ok&&x.ok):=by
 have z:JS.ok=true:=by decide
 have e:Xa p JS L=(p.ok&&x.ok):=by
  simp only[Xa,z,Yl,QU,hn,h0,h1,h2,h3,QG.ok,Bool.true_and];cases p.ok<;>cases x.up.ok<;>cases x.right.ok<;>cases x.down.ok<;>cases x.left.ok<;>rfl
 have d:decide (L.n>40)=false:=by rw[hn];rfl
 simp only[YX,e,d];cases p.ok&&x.ok<;>rfl
def idp(l:Rw QG)(m:VL):List (Nat×Blk):=Q3.blk 0 l++Q3.blk 1 m
def QAN(l:Rw QG)(m:VL)(k:Nat):JSt:=⟨19,[(0,.slz 0 0 l.n (.of 0)),(1,Q3.val 1 m),(7,.int false .i64 l.n),(8,.int false .i64 k)],idp l m,8⟩
noncomputable abbrev qa(l:Rw QG):List AV:=
  [vi (l.get k).up.kind,vi (l.get k).up.at_.lo,vi (l.get k).up.at_.hi,vi (l.get k).up.wide.lo,vi (l.get
  k).up.wide.hi,vi (l.get k).up.deep.lo,vi (l.get k).up.deep.hi]
noncomputable abbrev qu(l:Rw QG):List AV:=
  [vi (l.get k).right.kind,vi (l.get k).right.at_.lo,vi (l.get k).right.at_.hi,vi (l.get k).right.wide.lo,.int false .i64
  (l.get k).right.wide.hi,vi (l.get k).right.deep.lo,vi (l.get k).right.deep.hi]
noncomputable abbrev jD(l:Rw QG):List AV:=
  [vi (l.get k).down.kind,vi (l.get k).down.at_.lo,vi (l.get k).down.at_.hi,vi (l.get k).down.wide.lo,vi (l.get
  k).down.wide.hi,vi (l.get k).down.deep.lo,vi (l.get k).down.deep.hi]
noncomputable abbrev qz(l:Rw QG):List AV:=
  [vi (l.get k).left.kind,vi (l.get k).left.at_.lo,vi (l.get k).left.at_.hi,vi (l.get k).left.wide.lo,vi (l.get
  k).left.wide.hi,vi (l.get k).left.deep.lo,vi (l.get k).left.deep.hi]
theorem QTf(l:Rw QG)(m:VL)(k:Nat)(g:Nat→Value):exec (mkE Try.prog XS) (hnd (mkE Try.prog XS) 4) (Qd Try.f90 0) (JSt.inst (QAN l m k) g) (KS [] vE) = .br (decide ((k:Int)<(l.n:Int))) (.need (decide ((0 :
  Int)≤(k:Int)∧(k:Int)<(l.n:Int))&&decide (l.n≤l.n)) (.need (decide (k<l.n)) (.need (true&&(true&&(true&&true))&&decide (4≤1000)) (.br (YX m.x (Edge.mk
  (0:Int) (Sp.mk (0:Int) (0:Int)) (Sp.mk (0:Int) (0:Int)) (Sp.mk (0:Int) (0:Int))) (Rw.mk 4 fun i=>Edge.mk (QR [(qa k l),(qu k l),(jD k l),(qz k l)] 0 i
  0) (Sp.mk (QR [(qa k l),(qu k l),(jD k l),(qz k l)] 0 i 1) (QR [(qa k l),(qu k l),(jD k l),(qz k l)] 0 i 2)) (Sp.mk (QR [(qa k l),(qu k l),(jD k
  l),(qz k l)] 0 i 3) (QR [(qa k l),(qu k l),(jD k l),(qz k l)] 0 i 4)) (Sp.mk (QR [(qa k l),(qu k l),(jD k l),(qz k l)] 0 i 5) (QR [(qa k l),(qu k
  l),(jD k l),(qz k l)] 0 i 6))) != 0) (.leaf (.tup [.nili,.ptr 19 0 0,vi (k:Int)]) ([])) (.leaf (.tup [.nilp,.ptr 19 0 0,.slz 0 0 l.n cO,.fn
  (Fn.func 71) [.ptr 1 0 0],vi (l.n:Int),vi (i64.wrap ((k:Int)+1))]) ([(0,.frz [.int .i64,.int .i64,.int .i64,.int .i64,.int .i64,.int
  .i64,.int .i64,.int .i64,.int .i64,.int .i64,.int .i64,.int .i64,.int .i64,.int .i64,.int .i64,.int .i64,.int .i64,.int .i64,.int .i64,.int .i64,.int .i64,.int .i64,
  .int .i64,.int .i64,.int .i64,.int .i64,.int .i64,.int .i64] l.n fun i=>QA.enc (l.get i)),(1,.cellsR 0 25 [vi m.x.length,vi m.x.slack,.int
  false .i64 m.x.loose,vi m.x.damp.lo,vi m.x.damp.hi])])))))) (.leaf (.tup [.ptr 0 0 0,.ptr 19 0 0]) ([])):=by kernel_rfl
def QMG(l:Rw QG)(m:VL)(k:Nat)(e:Ex)(J:JSt):Prop:=(e = .ret∧(QU (JI m l) (l.n-k) k).isSome=true∧J=⟨19,[(4,.int false .i64 (Kl (QU (JI m l) (l.n-k) k)))],[],8⟩)∨(e = .exit 0∧QU (JI m l) (l.n-k) k=none∧J=⟨19,[],[],8⟩)
theorem QcF(l:Rw QG)(m:VL)(k:Nat)(i:Int):QK 8 [.slz 0 0 l.n cO,Q3.val 1 m,vi l.n,vi i] (idp l m) (QAN l m k)=(
  some [(0:Nat)=(0:Nat),l.n=l.n,Cap.of (0:Nat)=Cap.of (0:Nat),Fn.func (71:Nat)=Fn.func (71:Nat),(0:Nat)=(0:Nat),(0:Nat)=(0:Nat),(↑l.n:Int) =
  (↑l.n:Int),i=(↑k:Int),l.n≤l.n,QC (28:Nat) l.n (fun i=>QA.enc (l.get i)) fun i=>QA.enc (l.get i),m.x.length=m.x.length,m.x.slack=m.x.slack,m.x.loose =
  m.x.loose,m.x.damp.lo=m.x.damp.lo,m.x.damp.hi=m.x.damp.hi]):=by kernel_rfl
theorem QWh(l:Rw QG)(m:VL)(hl:l.n≤1000):Ji (QAN l m) (fun k=>k≤l.n) (fun k=>l.n-k) (QMG l m) 8 vE [] (mkE Try.prog XS) (fun _=>hnd (mkE Try.prog XS) 4) (Qd Try.f90 0):=by
 refine⟨fun k g hk=>⟨Ga (QTf l m k g) ?_⟩⟩;refine QI (fun h => ?_) (fun h => ?_)
 ·have h:k<l.n:=by have:=qdt h;omega
  obtain⟨n,hm⟩:∃ n,l.n-k=n+1:=⟨l.n-k-1,by omega⟩
  have hm':l.n-(k+1)=n:=by omega
  refine QF (by simp;omega) (QF (by simp;omega) (QF rfl (QI (fun hb => ?_) (fun hb => ?_))))
  ·have hf:QU (JI m l) (l.n-k) k=some k:=by rw[hm,QU];unfold JI;rw[(QKo m.x (l.get k) _ rfl rfl rfl rfl rfl).symm.trans hb]
   exact⟨_,.inl ⟨rfl,by rw[hf];rfl,rfl⟩,rfl,rfl,_,qS _ _,by rw[hf];exact⟨rfl,trivial⟩⟩
  ·have hf:QU (JI m l) (l.n-k) k=QU (JI m l) (l.n-(k+1)) (k+1):=by rw[hm,hm',QU];unfold JI;rw[(QKo m.x (l.get k) _ rfl rfl rfl rfl rfl).symm.trans hb]
   refine⟨k+1,by omega,by show l.n-(k+1)<l.n-k;omega,fun e J h=>by unfold QMG at h ⊢;rw[hf];exact h,rfl,rfl,_,QcF _ _ _ _,?_⟩
   repeat' first|exact trivial|with_reducible rfl|exact qlr _|exact qRr|exact(w64 (by omega) (by omega)).trans (by omega)|refine And.intro ?_ ?_
 ·have h:l.n≤k:=by have:=of_decide_eq_false h;omega
  have hf:QU (JI m l) (l.n-k) k=none:=by rw[show l.n-k=0 by omega];rfl
  exact⟨_,.inr ⟨rfl,hf,rfl⟩,rfl,rfl,_,QHX,trivial⟩
def QYj(l:Rw QG)(m:VL):List (Prop×Ex×JSt):=[((QU (JI m l) l.n 0).isSome=true,.ret,⟨19,[(4,.int false .i64 (Kl (QU (JI m l) l.n 0)))],[],8⟩),(QU (JI m l) l.n 0=none,.exit 0,⟨19,[],[],8⟩)]
abbrev QDD(l:Rw QG)(m:VL):Code→St→(Ex→St→QD)→QD:=fun _=>KN 8 [] (QAN l m 0) (QYj l m)
theorem QVm(l:Rw QG)(m:VL)(hl:l.n≤1000)(G:Ctx)(hrd:G.rd=none)(hG:G.n=8):KH (mkE Try.prog XS) G { hnd (mkE Try.prog XS) 1 with loop:=QDD l m } (Qr Try.f90):=by
 refine Jd (body:=Qd Try.f90 0) (QT HY) hrd (by kernel_rfl) ?_
 refine Ju (n0:=8) (QT HY) (by omega) (fun s hs=>Qz (QT HY) 4 G _ hrd) (fun s hs=>qlr _) ?_ (QWh l m hl) (s0:=0) (Nat.zero_le _) ?_
 ·rintro s e J (⟨_,_,rfl⟩|⟨_,_,rfl⟩)<;>exact qlr _
 ·rintro e J (⟨rfl,h,rfl⟩|⟨rfl,h,rfl⟩)
  ·exact⟨_,List.mem_cons_self,h,rfl,rfl⟩
  ·exact⟨_,List.mem_cons_of_mem _ List.mem_cons_self,h,rfl,rfl⟩
def GV:WF ((Rw QG)×VL×Unit):=fun|(l,(m,_))=>(decide (l.n≤1000),.int false .i64 (Kl (QU (JI m l) l.n 0)),[])
def QMx:FC:=wFC GV
theorem QZL(l:(Rw QG))(m:VL):Kc (mkE Try.prog XS) { hnd (mkE Try.prog XS) 1 with loop:=QDD l m } Try.f90 (QX.vals 0 ((l,m,()):(Rw QG)×VL×Unit)) (QX.blks 0 ((l,m,()):(Rw QG)×VL×Unit)) 8 =
  QD.ask ((0:Nat)=(0:Nat)) (QD.ask (l.n=l.n) (QD.ask (Cap.of (0:Nat)=Cap.of (0:Nat)) (QD.ask (Fn.func (71:Nat)=Fn.func (71:Nat)) (QD.ask ((0:Nat)=(0
  : Nat)) (QD.ask ((0:Nat)=(0:Nat)) (QD.ask ((↑l.n:Int)=(↑l.n:Int)) (QD.ask ((0:Int)=(0:Int)) (QD.ask (l.n≤l.n) (QD.ask (QC (28:Nat) l.n (fun i=>
  QA.enc (l.get i)) fun i=>QA.enc (l.get i)) (QD.ask (m.x.length=m.x.length) (QD.ask (m.x.slack=m.x.slack) (QD.ask (m.x.loose=m.x.loose) (QD.ask (m.x.damp.lo =
  m.x.damp.lo) (QD.ask (m.x.damp.hi=m.x.damp.hi) (QD.both (QD.asm ((QU (JI m l) l.n (0:Nat)).isSome=true) (QD.all (fun(g0:Nat→Value)=>QD.leaf (AV.int
  false i64 (Kl (QU (JI m l) l.n (0:Nat)))) ([])))) (QD.asm (QU (JI m l) l.n (0:Nat)=none) (QD.all (fun(g1:Nat→Value)=>QD.leaf (AV.int true
  i64 (-1:Int)) ([]))))))))))))))))))):=by kernel_rfl
theorem QWR:Jr (mkE Try.prog XS) (Qr Try.f90) 8 GV (fun x_=>{ hnd (mkE Try.prog XS) 1 with loop:=QDD x_.1 x_.2.1 }):=by
 refine⟨?_⟩;rintro⟨l,⟨m,⟨⟩⟩⟩ hp G h1 h2;exact QVm l m (qdt hp) G h1 h2
theorem QdE:Jo (mkE Try.prog XS) Try.f90 8 GV (fun x_=>{ hnd (mkE Try.prog XS) 1 with loop:=QDD x_.1 x_.2.1 }):=by
 refine⟨?_⟩;rintro⟨l,⟨m,⟨⟩⟩⟩ hp;refine⟨⟨rfl,by simp[GV],rfl⟩,⟨?_⟩⟩
 rw[QZL l m];simp only[GV]at hp
 repeat' first|refine Qb (by with_reducible rfl) ?_|refine Qb (qlr _) ?_|refine Qb (qRr) ?_|refine Qb (show _=_ from rfl) ?_
 refine Yu (KO fun h=>KK fun g => ?_) (KO fun h=>KK fun g => ?_)
 ·exact JE ⟨rfl,rfl⟩ rfl
 ·exact JE ⟨rfl,by show(-1:Int)=Kl (QU (JI m l) l.n 0);rw[h];rfl⟩ rfl
theorem QWo:QQ Try.prog 90 QMx:=
 Jx (QT HY) Try.func90 (by kernel_rfl) (by kernel_rfl) (by decide) QWR QdE
def Wl:Tab:=Qe XS 90 QMx
theorem QFd:Qc Wl:=HY.add QWo
def GS:WF ((Rw QG)×VL×Unit):=fun|(l,(m,_))=>(decide (l.n≤1000),.bool false (decide (Kl (QU (JI m l) l.n 0)≥0)),[])
def QN0:FC:=wFC GS
theorem QXX(l:(Rw QG))(m:VL):Kc (mkE Try.prog Wl) (hnd (mkE Try.prog Wl) 0) Try.f70 (QX.vals 0 ((l,m,()):(Rw QG)×VL×Unit)) (QX.blks 0 ((l,m,()):(Rw QG)×VL×Unit)) 8 =
  QD.need (decide (l.n≤l.n)&&(true&&true)&&decide (l.n≤(1000:Nat))) (QD.leaf (AV.bool false (decide (Kl (QU (JI m l) l.n (0:Nat))≥(0:Int)))) ([])):=by kernel_rfl
theorem QUg:Jr (mkE Try.prog Wl) (Qr Try.f70) 8 GS (fun x_=>(hnd (mkE Try.prog Wl) 0)):=by
 refine⟨?_⟩;rintro⟨l,⟨m,⟨⟩⟩⟩ hp G h1 h2;exact Qz (QT QFd) 0 G _ h1
theorem Qav:Jo (mkE Try.prog Wl) Try.f70 8 GS (fun x_=>(hnd (mkE Try.prog Wl) 0)):=by
 refine⟨?_⟩;rintro⟨l,⟨m,⟨⟩⟩⟩ hp;refine⟨⟨rfl,by simp[GS],rfl⟩,⟨?_⟩⟩
 rw[QXX l m];simp only[GS]at hp;exact QF (by simpa using hp) (JE rfl rfl)
theorem QZQ:QQ Try.prog 70 QN0:=
 Jx (QT QFd) Try.func70 (by kernel_rfl) (by kernel_rfl) (by decide) QUg Qav
def QA7:Tab:=Qe Wl 70 QN0
theorem QM2:Qc QA7:=QFd.add QZQ
def Ve(l:Rw QG):Bool:=(QU (JI ⟨p⟩ l) l.n 0).isNone
def QP3:Int×Int×Int×Unit→Bool×AV:=fun|(n,(a,(b,_)))=>(true,.bool false (Qg n a b))
def QJG:FC:=KD (KE QP3)
theorem QWG(n:Int)(a:Int)(b:Int):Q8 (mkE Try.prog QA7) (hnd (mkE Try.prog QA7) 2) false Try.f66 (Qt.enc ((n,a,b,()):Int×Int×Int×Unit)) [] 0 =
  QD.br (decide (a≤n)) (QD.leaf (AV.bool false (decide (n≤b))) ([])) (QD.leaf (AV.bool true false) ([])):=by kernel_rfl
theorem QSR:QQ Try.prog 66 QJG:=by
 refine KQ QM2 2 Try.func66 (by kernel_rfl) (by kernel_rfl) ?_
 rintro⟨n,a,b,⟨⟩⟩ hp;rw[QWG n a b];simp only[QP3,QD.den,AV.same,AV.sameL,and_true,true_and]at hp ⊢
 (repeat' (first|(refine And.intro ?_ ?_)|(intro _)))<;>simp_all [Qg]<;>omega
def Z4:Tab:=Qe QA7 66 QJG
theorem QGJ:Qc Z4:=QM2.add QSR
def Gm:WF (Qm×(Rw QG)×Unit):=fun|(p,(l,_))=>(decide (l.n≤1000),.bool false (Ve p l),[])
def QNH:FC:=wFC Gm
theorem QSX(l:(Rw QG)):Kc (mkE Try.prog Z4) (hnd (mkE Try.prog Z4) 0) Try.f42 (QX.vals 0 ((p,l,()):Qm×(Rw QG)×Unit)) (QX.blks 0 ((p,l,()):Qm×(Rw QG)×Unit)) 8 =
  QD.need (decide (l.n≤l.n)&&(true&&true)&&decide (l.n≤(1000:Nat))) (QD.leaf (AV.bool false !decide (Kl (QU (JI (FnC.mk p) l) l.n (0:Nat))≥(0:Int)))
  ([])):=by kernel_rfl
theorem QWi:Jr (mkE Try.prog Z4) (Qr Try.f42) 8 Gm (fun x_=>(hnd (mkE Try.prog Z4) 0)):=by
 refine⟨?_⟩;rintro⟨p,⟨l,⟨⟩⟩⟩ hp G h1 h2;exact Qz (QT QGJ) 0 G _ h1
theorem QdO:Jo (mkE Try.prog Z4) Try.f42 8 Gm (fun x_=>(hnd (mkE Try.prog Z4) 0)):=by
 refine⟨?_⟩;rintro⟨p,⟨l,⟨⟩⟩⟩ hp;refine⟨⟨rfl,by simp[Gm],rfl⟩,⟨?_⟩⟩
 rw[QSX p l];simp only[Gm]at hp;exact QF (by simpa using hp) (JE (QEL _) rfl)
theorem QRr:QQ Try.prog 42 QNH:=
 Jx (QT QGJ) Try.func42 (by kernel_rfl) (by kernel_rfl) (by decide) QWi QdO
def Wt:Tab:=Qe Z4 42 QNH
theorem QFk:Qc Wt:=QGJ.add QRr
def Puz.okN(d:Puz):Bool:=Qg (d.ps.n:Int) 1 9&&(Qg d.wide 1 d.ps.n&&(Qg d.high 1 d.ps.n&&i64.wrap (d.wide*d.high)==(d.ps.n:Int)))
def Puz.ok(d:Puz):Bool:=d.okN&&Ve d.play d.ps
def jU:WF (Puz×Unit):=fun|(d,_)=>(decide (d.ps.n≤1000),.bool false d.ok,[])
def QLD:FC:=wFC jU
theorem Qbl(d:Puz):Kc (mkE Try.prog Wt) (hnd (mkE Try.prog Wt) 0) Try.f37 (QX.vals 0 ((d,()):Puz×Unit)) (QX.blks 0 ((d,()):Puz×Unit)) 8 =
  QD.need (true) (QD.br (Qg (↑d.ps.n:Int) (1:Int) (9:Int)) (QD.need (true) (QD.br (Qg d.wide (1:Int) (↑d.ps.n:Int)) (QD.need (true) (QD.br (Qg d.high
  (1:Int) (↑d.ps.n:Int)) (QD.br (i64.wrap (d.wide*d.high)==(↑d.ps.n:Int)) (QD.need (true&&(decide (d.ps.n≤d.ps.n)&&true)&&decide (d.ps.n≤(1000:Nat)))
  (QD.leaf (AV.bool false (Ve d.play d.ps)) ([]))) (QD.leaf (AV.bool true false) ([]))) (QD.leaf (AV.bool true false) ([])))) (QD.leaf (AV.bool true false) ([]))))
  (QD.leaf (AV.bool true false) ([]))):=by kernel_rfl
theorem QVN:Jr (mkE Try.prog Wt) (Qr Try.f37) 8 jU (fun x_=>(hnd (mkE Try.prog Wt) 0)):=by
 refine⟨?_⟩;rintro⟨d,⟨⟩⟩ hp G h1 h2;exact Qz (QT QFk) 0 G _ h1
theorem QbL:Jo (mkE Try.prog Wt) Try.f37 8 jU (fun x_=>(hnd (mkE Try.prog Wt) 0)):=by
 refine⟨?_⟩;rintro⟨d,⟨⟩⟩ hp;refine⟨⟨rfl,by simp[jU],rfl⟩,⟨?_⟩⟩
 rw[Qbl d];simp only[jU]at hp;have no:d.okN=false→(QD.leaf (AV.bool true false) []).den (XG 8 (jU (d,())).2.1 (jU (d,())).2.2):=fun h=>JE (show false=d.ok by rw[Puz.ok,h];rfl) rfl
 refine QF rfl (QI (fun h1=>QF rfl (QI (fun h2=>QF rfl (QI (fun h3=>QI (fun h4=>QF (by simpa using hp) (JE (show Ve d.play d.ps=d.ok by rw[Puz.ok,Puz.okN,h1,h2,h3,h4];rfl) rfl)) (fun h4=>no (by rw[Puz.okN,h1,h2,h3,h4];rfl))) (fun h3=>no (by rw[Puz.okN,h1,h2,h3];rfl)))) (fun h2=>no (by rw[Puz.okN,h1,h2];rfl)))) (fun h1=>no (by rw[Puz.okN,h1];rfl)))
theorem QTS:QQ Try.prog 37 QLD:=
 Jx (QT QFk) Try.func37 (by kernel_rfl) (by kernel_rfl) (by decide) QVN QbL
def QAa:Tab:=Qe Wt 37 QLD
theorem QQs:Qc QAa:=QFk.add QTS
def Gd(s:Int):Int:=(s+2).tmod 4
def QMc:Int×Unit→Bool×AV:=fun|(s,_)=>(decide (0≤s∧s≤3),.int false .i64 (Gd s))
def QOc:FC:=KD (KE QMc)
theorem QWX(s:Int):Q8 (mkE Try.prog QAa) (hnd (mkE Try.prog QAa) 2) false Try.f39 (Qt.enc ((s,()):Int×Unit)) [] 0 =
  QD.leaf (AV.int false i64 ((i64.wrap (s+(2:Int))).tmod (4:Int))) ([]):=by kernel_rfl
theorem QTB:QQ Try.prog 39 QOc:=by
 refine KQ QQs 2 Try.func39 (by kernel_rfl) (by kernel_rfl) ?_
 rintro⟨s,⟨⟩⟩ hp;rw[QWX s];simp only[QMc,QD.den,AV.same,AV.sameL,and_true,true_and]at hp ⊢;have hp:=qdt hp;show(i64.wrap (s+2)).tmod 4=Gd s;rw[w64 (by omega) (by omega)];rfl
def qI:Tab:=Qe QAa 39 QOc
theorem QHk:Qc qI:=QQs.add QTB
def QV(wide high cell side:Int):Int:=
 cond (side==0&&decide (0<cell.tdiv wide)) (cell-wide) (cond (side==1&&decide (cell.tmod wide<wide-1)) (cell+1)
  (cond (side==2&&decide (cell.tdiv wide<high-1)) (cell+wide) (cond (side==3&&decide (0<cell.tmod wide)) (cell-1) (-1))))
def qR:WF (Puz×Int×Int×Unit):=fun|(d,(c,(s,_)))=>(decide ((1≤d.wide∧d.wide≤100)∧(1≤d.high∧d.high≤100)∧(0≤c∧c≤100)),.int false .i64 (QV d.wide d.high c s),[])
def QNV:FC:=wFC qR
theorem QZG(d:Puz)(c:Int)(s:Int):Kc (mkE Try.prog qI) (hnd (mkE Try.prog qI) 0) Try.f38 (QX.vals 0 ((d,c,s,()):Puz×Int×Int×Unit)) (QX.blks 0 ((d,c,s,()):Puz×Int×Int ×
  Unit)) 8 = .need (!decide (d.wide=0)) (.need (!decide (d.wide=0)) (.br (s==0) (.br (decide (i64.wrap (c.tdiv d.wide)>0)) (.leaf (.int false .i64 (i64.wrap (c
  - d.wide))) ([])) (.br (s==1) (.br (decide (c.tmod d.wide<i64.wrap (d.wide-1))) (.leaf (.int false .i64 (i64.wrap (c+1))) ([])) (.br (s==2) (.br (decide
  (i64.wrap (c.tdiv d.wide)<i64.wrap (d.high-1))) (.leaf (.int false .i64 (i64.wrap (c+d.wide))) ([])) (.br (s==3) (.br (decide (c.tmod d.wide>0))
  (.leaf (.int false .i64 (i64.wrap (c-1))) ([])) (.leaf (.int true .i64 (-1)) ([]))) (.leaf (.int true .i64 (-1)) ([])))) (.br (s==3) (.br (decide (c.tmod d.wide>0))
  (.leaf (.int false .i64 (i64.wrap (c-1))) ([])) (.leaf (.int true .i64 (-1)) ([]))) (.leaf (.int true .i64 (-1)) ([]))))) (.br (s==2) (.br (decide (i64.wrap
  (c.tdiv d.wide)<i64.wrap (d.high-1))) (.leaf (.int false .i64 (i64.wrap (c+d.wide))) ([])) (.br (s==3) (.br (decide (c.tmod d.wide>0)) (.leaf (.int false
  .i64 (i64.wrap (c-1))) ([])) (.leaf (.int true .i64 (-1)) ([]))) (.leaf (.int true .i64 (-1)) ([])))) (.br (s==3) (.br (decide (c.tmod d.wide>0)) (.leaf (.int false
  .i64 (i64.wrap (c-1))) ([])) (.leaf (.int true .i64 (-1)) ([]))) (.leaf (.int true .i64 (-1)) ([])))))) (.br (s==1) (.br (decide (c.tmod d.wide<i64.wrap
  (d.wide-1))) (.leaf (.int false .i64 (i64.wrap (c+1))) ([])) (.br (s==2) (.br (decide (i64.wrap (c.tdiv d.wide)<i64.wrap (d.high-1))) (.leaf (.int
  false .i64 (i64.wrap (c+d.wide))) ([])) (.br (s==3) (.br (decide (c.tmod d.wide>0)) (.leaf (.int false .i64 (i64.wrap (c-1))) ([])) (.leaf (.int true .i64
  (-1)) ([]))) (.leaf (.int true .i64 (-1)) ([])))) (.br (s==3) (.br (decide (c.tmod d.wide>0)) (.leaf (.int false .i64 (i64.wrap (c-1))) ([])) (.leaf (.int true .i64
  (-1)) ([]))) (.leaf (.int true .i64 (-1)) ([]))))) (.br (s==2) (.br (decide (i64.wrap (c.tdiv d.wide)<i64.wrap (d.high-1))) (.leaf (.int false .i64
  (i64.wrap (c+d.wide))) ([])) (.br (s==3) (.br (decide (c.tmod d.wide>0)) (.leaf (.int false .i64 (i64.wrap (c-1))) ([])) (.leaf (.int true .i64 (-1)) ([])))
  (.leaf (.int true .i64 (-1)) ([])))) (.br (s==3) (.br (decide (c.tmod d.wide>0)) (.leaf (.int false .i64 (i64.wrap (c-1))) ([])) (.leaf (.int true .i64 (-1)) ([])))
  (.leaf (.int true .i64 (-1)) ([]))))))):=by kernel_rfl
theorem QVt:Jr (mkE Try.prog qI) (Qr Try.f38) 8 qR (fun x_=>(hnd (mkE Try.prog qI) 0)):=by
 refine⟨?_⟩;rintro⟨d,⟨c,⟨s,⟨⟩⟩⟩⟩ hp G h1 h2;exact Qz (QT QHk) 0 G _ h1
theorem QUD:Jo (mkE Try.prog qI) Try.f38 8 qR (fun x_=>(hnd (mkE Try.prog qI) 0)):=by
 refine⟨?_⟩;rintro⟨d,⟨c,⟨s,⟨⟩⟩⟩⟩ hp;refine⟨⟨rfl,by simp[qR],rfl⟩,⟨?_⟩⟩
 rw[QZG d c s];simp only[qR]at hp;obtain⟨⟨w1,w2⟩,⟨h1,h2⟩,c1,c2⟩:=qdt hp;have q0:0≤c.tdiv d.wide:=Int.tdiv_nonneg c1 (by omega)
 have q1:c.tdiv d.wide≤c:=by rw[Int.tdiv_eq_ediv_of_nonneg c1];exact Int.ediv_le_self _ c1
 have m0:0≤c.tmod d.wide:=Int.tmod_nonneg _ c1;have m1:c.tmod d.wide<d.wide:=Int.tmod_lt_of_pos _ (by omega)
 have e1:i64.wrap (c.tdiv d.wide)=c.tdiv d.wide:=w64 (by omega) (by omega)
 have e2:i64.wrap (c-d.wide)=c-d.wide:=w64 (by omega) (by omega)
 have e3:i64.wrap (d.wide-1)=d.wide-1:=w64 (by omega) (by omega)
 have e4:i64.wrap (c+1)=c+1:=w64 (by omega) (by omega)
 have e5:i64.wrap (d.high-1)=d.high-1:=w64 (by omega) (by omega)
 have e6:i64.wrap (c+d.wide)=c+d.wide:=w64 (by omega) (by omega)
 have e7:i64.wrap (c-1)=c-1:=w64 (by omega) (by omega)
 have dz:(!decide (d.wide=0))=true:=by simp;omega
 rw[e1,e2,e3,e4,e5,e6,e7];refine QF dz (QF dz ?_);have fin:∀ v:AV,v.same (.int false .i64 (QV d.wide d.high c s))→(QD.leaf v []).den (XG 8 (qR (d,c,s,())).2.1 (qR (d,c,s,())).2.2):=fun v h=>JE h rfl
 repeat' refine QI (fun _ => ?_) (fun _ => ?_)
 all_goals refine fin _ ?_
 all_goals simp only[AV.same,QV,true_and]
 all_goals grind
theorem Qcm:QQ Try.prog 38 QNV:=
 Jx (QT QHk) Try.func38 (by kernel_rfl) (by kernel_rfl) (by decide) QVt QUD
def YU:Tab:=Qe qI 38 QNV
theorem HC:Qc YU:=QHk.add Qcm
end Go.Proofs.Ytbpffdkemeoajaa
