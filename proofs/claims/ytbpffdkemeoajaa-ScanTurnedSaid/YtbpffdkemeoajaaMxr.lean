/- - -/
import Derived.Test.YtbpffdkemeoajaaMxo
import Derived.Test.YtbpffdkemeoajaaMxq
open Go.IntKind (i64)
set_option maxRecDepth 100000
namespace Go.Proofs.Ytbpffdkemeoajaa
open Go.SX
def QZ(fn:Func)(k:Nat):Code:=match (Kg (Qq fn))[k]? with
 | some (.loop b)=>b
 | _ => .skip
instance : QA Edge where
  ks := [.int .i64,.int .i64,.int .i64,.int .i64,.int .i64,.int .i64,.int .i64]
  enc e j := match j with
    | 0 => e.kind
    | 1 => e.at_.lo
    | 2 => e.at_.hi
    | 3 => e.wide.lo
    | 4 => e.wide.hi
    | 5 => e.deep.lo
    | _ => e.deep.hi
  dec f := ⟨f 0,⟨f 1,f 2⟩,⟨f 3,f 4⟩,⟨f 5,f 6⟩⟩
  ok _ := rfl
structure FnK (g:Nat) where
 u:Unit
instance (g : Nat) : Enc (FnK g) where
  enc _ := .fn (.func g) []
  dec v := match v with
    | .fn (.func g') [] => (match Nat.beq g' g with | true => some ⟨()⟩ | false => none)
    | _ => none
  ok v x h := by
    split at h <;> (try (cases h; done))
    split at h <;> (try (cases h; done))
    rename_i hg;have := Nat.eq_of_beq_eq_true hg;subst this;exact⟨fun _ => rfl,rfl⟩
def QL(p:Nat→Bool):Nat→Nat→Option Nat
 | 0,_=>none
 | m+1,k=>match p k with
  | true=>some k
  | false=>QL p m (k+1)
def KI:Option Nat→Int
 | some i=>i
 | none => -1
def XT(p:Nat→Bool)(n:Nat):Bool:=(QL (fun i => !p i) n 0).isNone
theorem Zp{p:Nat→Bool}:∀{m k:Nat},QL p m k=none→∀ i,k≤i→i<k+m→p i=false
 | 0,k,_,i,h1,h2=>by omega
 | m+1,k,h,i,h1,h2=>by
  simp only[QL]at h;split at h
  ·cases h
  ·rename_i hk;rcases Nat.eq_or_lt_of_le h1 with rfl|hlt
   ·exact hk
   ·exact Zp h i hlt (by omega)
theorem QQG{p:Nat→Bool}{n:Nat}(h:XT p n=true){i:Nat}(hi:i<n):p i=true:=by
 unfold XT at h;rw[Option.isNone_iff_eq_none]at h;have:=Zp h i (Nat.zero_le _) (by omega)
 simpa using this
theorem jG{p:Nat→Bool}:∀{m k:Nat},(∀ i,k≤i→i<k+m→p i=false)→QL p m k=none
 | 0,_,_=>rfl
 | m+1,k,h=>by
  simp only[QL];rw[h k (qlr _) (by omega)]
  exact jG fun i h1 h2=>h i (by omega) (by omega)
def QIQ:Edge×Unit→Bool×AV:=fun|(s,_)=>(true,.bool false (!s.ok))
def QLP:FC:=Q3 (Q1 QIQ)
variable (p:Ql)(s:Edge)(k:Nat)(l:Rw Edge)(least:Int)(o:List Int)
theorem QN2:Qt (mkE Try.prog zj) (hnd (mkE Try.prog zj) 0) false Try.f84 (Qm.enc ((s,()):Edge×Unit)) [] 0 =
  QB.need (true) (QB.leaf (AV.bool false !s.ok) ([])):=by kernel_rfl
theorem QO4:QQ Try.prog 84 QLP:=by
 refine Q7 QL6 0 Try.func84 (by kernel_rfl) (by kernel_rfl) ?_
 rintro⟨s,⟨⟩⟩ hp;rw[QN2 s];simp only[QIQ,QB.den,AV.same,AV.sameL,and_true,true_and]at hp ⊢
def Xd:Tab:=Qb zj 84 QLP
theorem jy:QV Xd:=QL6.add QO4
def JI(i:Nat):Bool := !(l.get i).ok
def GT(k:Nat):JSt:=⟨19,[(0,.slz 0 0 l.n (.of 0)),(1,.fn (.func 84) []),(7,.int false .i64 l.n),(8,.int false .i64 k)],Qz.blk 0 l,8⟩
def Wv:Ex→List Nat
 | .normal=>[0,1,7,8]
 | .exit _=>[]
 | .ret=>[4]
theorem QRW(k:Nat)(g:Nat→Value):exec (mkE Try.prog Xd) (hnd (mkE Try.prog Xd) 0) (QZ Try.f96 0) (JSt.inst (GT l k) g) (KW [] Wv) =
  QB.br (decide ((↑k:Int)<(↑l.n:Int))) (QB.need (decide ((0:Int)≤(↑k:Int)∧(↑k:Int)<(↑l.n:Int))&&decide (l.n≤l.n)) (QB.need (decide (k<l.n)) (QB.need
  (true) (QB.br (!(l.get k).ok) (QB.leaf (AV.tup [AV.nili,AV.ptr (19:Nat) (0:Nat) (0:Nat),AV.int false i64 (↑k:Int)]) ([])) (QB.leaf (AV.tup [AV.nilp,AV.ptr
  (19:Nat) (0:Nat) (0:Nat),AV.slz (0:Nat) (0:Nat) l.n (Cap.of (0:Nat)),AV.fn (Fn.func (84:Nat)) [],AV.int false i64 (↑l.n:Int),AV.int false i64
  (i64.wrap ((↑k:Int)+(1:Int)))]) ([((0:Nat),Blk.frz [CK.int i64,CK.int i64,CK.int i64,CK.int i64,CK.int i64,CK.int
  i64,CK.int i64] l.n fun i=>QA.enc (l.get i))])))))) (QB.leaf (AV.tup [AV.ptr (0:Nat) (0:Nat) (0:Nat),AV.ptr (19:Nat) (0:Nat) (0:Nat)]) ([])):=by kernel_rfl
def QH1(k:Nat)(e:Ex)(J:JSt):Prop:=(e = .ret∧(QL (JI l) (l.n-k) k).isSome=true∧J=⟨19,[(4,.int false .i64 (KI (QL (JI l) (l.n-k) k)))],[],8⟩)∨(e = .exit 0∧QL (JI l) (l.n-k) k=none∧J=⟨19,[],[],8⟩)
theorem QO6(k:Nat)(i:Int):QO 8 [.slz 0 0 l.n cO,.fn (.func 84) [],vi l.n,vi i] (Qz.blk 0 l) (GT l k)=(
  some [(0:Nat)=(0:Nat),l.n=l.n,Cap.of (0:Nat)=Cap.of (0:Nat),Fn.func (84:FuncId)=Fn.func (84:FuncId),(↑l.n:Int)=(↑l.n:Int),i=(↑k:Int),l.n≤l.n,
  QE (7:Nat) l.n (fun i=>QA.enc (l.get i)) fun i=>QA.enc (l.get i)]):=by kernel_rfl
theorem WY(i j:Int):QO 8 [vi i] [] ⟨19,[(4,vi j)],[],8⟩=(
  some [i=j]):=by kernel_rfl
theorem QBk :QO 8 [] [] ⟨19,[],[],8⟩=(
  some []):=by kernel_rfl
theorem QOL(hl:l.n≤1000):JD (GT l) (fun k=>k≤l.n) (fun k=>l.n-k) (QH1 l) 8 Wv [] (mkE Try.prog Xd) (fun _=>hnd (mkE Try.prog Xd) 0) (QZ Try.f96 0):=by
 refine⟨fun k g hk=>⟨vY (QRW l k g) ?_⟩⟩;refine QK (fun h => ?_) (fun h => ?_)
 ·have h:k<l.n:=by have:=qdt h;omega
  obtain⟨m,hm⟩:∃ m,l.n-k=m+1:=⟨l.n-k-1,by omega⟩
  have hm':l.n-(k+1)=m:=by omega
  refine QF (by simp;omega) (QF (by simp;omega) (QF rfl (QK (fun hb => ?_) (fun hb => ?_))))
  ·have hf:QL (JI l) (l.n-k) k=some k:=by rw[hm,QL];unfold JI;rw[hb]
   exact⟨_,.inl ⟨rfl,by rw[hf];rfl,rfl⟩,rfl,rfl,_,WY _ _,by rw[hf];exact⟨rfl,trivial⟩⟩
  ·have hf:QL (JI l) (l.n-k) k=QL (JI l) (l.n-(k+1)) (k+1):=by rw[hm,hm',QL];unfold JI;rw[hb]
   refine⟨k+1,by omega,by show l.n-(k+1)<l.n-k;omega,fun e J h=>by unfold QH1 at h ⊢;rw[hf];exact h,rfl,rfl,_,QO6 _ _ _,?_⟩
   exact⟨rfl,rfl,rfl,rfl,rfl,(w64 (by omega) (by omega)).trans (by omega),qlr _,qRr,trivial⟩
 ·have h:l.n≤k:=by have:=of_decide_eq_false h;omega
  have hf:QL (JI l) (l.n-k) k=none:=by rw[show l.n-k=0 by omega];rfl
  exact⟨_,.inr ⟨rfl,hf,rfl⟩,rfl,rfl,_,QBk,trivial⟩
def QVd:List (Prop×Ex×JSt):=[((QL (JI l) l.n 0).isSome=true,.ret,⟨19,[(4,.int false .i64 (KI (QL (JI l) l.n 0)))],[],8⟩),(QL (JI l) l.n 0=none,.exit 0,⟨19,[],[],8⟩)]
abbrev HG(P:Program)(l:Rw Edge):Hnd:={ hnd (mkE P Xd) 1 with loop:=fun _=>KE 8 [] (GT l 0) (QVd l) }
theorem QST(hl:l.n≤1000)(G:Ctx)(hrd:G.rd=none)(hG:G.n=8):Q5 (mkE Try.prog Xd) G (HG Try.prog l) (Qq Try.f96):=by
 refine JT (body:=QZ Try.f96 0) (QR jy) hrd (by kernel_rfl) ?_
 refine JX (n0:=8) (QR jy) (by omega) (fun s hs=>Qv (QR jy) 0 G _ hrd) (fun s hs=>qlr _) ?_ (QOL l hl) (s0:=0) (Nat.zero_le _) ?_
 ·rintro s e J (⟨_,_,rfl⟩|⟨_,_,rfl⟩)<;>exact qlr _
 ·rintro e J (⟨rfl,h,rfl⟩|⟨rfl,h,rfl⟩)
  ·exact⟨_,List.mem_cons_self,h,rfl,rfl⟩
  ·exact⟨_,List.mem_cons_of_mem _ List.mem_cons_self,h,rfl,rfl⟩
theorem QVI(x:FnK 84):KY (mkE Try.prog Xd) (HG Try.prog l) Try.f96 (QS.vals 0 (l,x,())) (QS.blks 0 (l,x,())) 8 =
  QB.ask ((0:Nat)=(0:Nat)) (QB.ask (l.n=l.n) (QB.ask (Cap.of (0:Nat)=Cap.of (0:Nat)) (QB.ask (Fn.func (84:Nat)=Fn.func (84:FuncId)) (QB.ask ((↑l.n:Int)
  = (↑l.n:Int)) (QB.ask ((0:Int)=(0:Int)) (QB.ask (l.n≤l.n) (QB.ask (QE (7:Nat) l.n (fun i=>QA.enc (l.get i)) fun i=>QA.enc (l.get i)) (QB.both
  (QB.asm ((QL (JI l) l.n (0:Nat)).isSome=true) (QB.all (fun(g0:Nat→Value)=>QB.leaf (AV.int false i64 (KI (QL (JI l) l.n (0:Nat)))) ([]))))
  (QB.asm (QL (JI l) l.n (0:Nat)=none) (QB.all (fun(g1:Nat→Value)=>QB.leaf (AV.int true i64 (-1:Int)) ([])))))))))))):=by kernel_rfl
def QAq:WF (Rw Edge×FnK 84×Unit):=fun x=>(decide (x.1.n≤1000),.int false .i64 (KI (QL (JI x.1) x.1.n 0)),[])
def QFU:FC:=wFC QAq
theorem QOv:Kx (mkE Try.prog Xd) (Qq Try.f96) 8 QAq (fun x=>HG Try.prog x.1):=
 ⟨fun x hx G h1 h2=>QST x.1 (qdt hx) G h1 h2⟩
theorem QT1:K3 (mkE Try.prog Xd) Try.f96 8 QAq (fun x=>HG Try.prog x.1):=by
 refine⟨?_⟩;rintro⟨l,x,⟨⟩⟩ hp;refine⟨⟨rfl,by simp[QAq],rfl⟩,⟨?_⟩⟩
 rw[QVI l x];refine Qa rfl (Qa rfl (Qa rfl (Qa rfl (Qa rfl (Qa rfl (Qa (qlr _) (Qa (qRr) (XQ (KQ fun h=>KN fun g => ?_) (KQ fun h=>KN fun g => ?_)))))))))
 ·exact Ke ⟨rfl,rfl⟩ rfl
 ·exact Ke ⟨rfl,by show(-1:Int)=KI (QL (JI l) l.n 0);rw[h];rfl⟩ rfl
theorem QNP:QQ Try.prog 96 QFU:=
 K9 (QR jy) Try.func96 (by kernel_rfl) (by kernel_rfl) (by decide) QOv QT1
def Y0:Tab:=Qb Xd 96 QFU
theorem QDP:QV Y0:=jy.add QNP
def vT:WF ((Rw Edge)×(FnK 84)×Unit):=fun|(l,(x,_))=>(decide (l.n≤1000),.bool false (decide (KI (QL (JI l) l.n 0)≥0)),[])
def QJW:FC:=wFC vT
theorem QOV(l:(Rw Edge))(x:(FnK 84)):KY (mkE Try.prog Y0) (hnd (mkE Try.prog Y0) 0) Try.f83 (QS.vals 0 ((l,x,()):(Rw Edge)×(FnK 84)×Unit)) (QS.blks 0 ((l,x,()):(Rw Edge)×(FnK 84)×Unit)) 8 =
  QB.need (decide (l.n≤l.n)&&(true&&true)&&decide (l.n≤(1000:Nat))) (QB.leaf (AV.bool false (decide (KI (QL (JI l) l.n (0:Nat))≥(0:Int)))) ([])):=by kernel_rfl
theorem QTT:Kx (mkE Try.prog Y0) (Qq Try.f83) 8 vT (fun x_=>(hnd (mkE Try.prog Y0) 0)):=by
 refine⟨?_⟩;rintro⟨l,⟨x,⟨⟩⟩⟩ hp G h1 h2;exact Qv (QR QDP) 0 G _ h1
theorem QTm:K3 (mkE Try.prog Y0) Try.f83 8 vT (fun x_=>(hnd (mkE Try.prog Y0) 0)):=by
 refine⟨?_⟩;rintro⟨l,⟨x,⟨⟩⟩⟩ hp;refine⟨⟨rfl,by simp[vT],rfl⟩,⟨?_⟩⟩
 rw[QOV l x];simp only[vT]at hp;exact QF (by simpa using hp) (Ke rfl rfl)
theorem QQn:QQ Try.prog 83 QJW:=
 K9 (QR QDP) Try.func83 (by kernel_rfl) (by kernel_rfl) (by decide) QTT QTm
def Yp:Tab:=Qb Y0 83 QJW
theorem QB3:QV Yp:=QDP.add QQn
theorem QC4:∀(o:Option Nat),(!decide (KI o≥0))=o.isNone
 | some i=>by simp[KI]
 | none=>rfl
def vD:WF ((Rw Edge)×Unit):=fun|(l,_)=>(decide (l.n≤1000),.bool false (XT (fun i=>(l.get i).ok) l.n),[])
def QHS:FC:=wFC vD
theorem QVv(l:(Rw Edge)):KY (mkE Try.prog Yp) (hnd (mkE Try.prog Yp) 0) Try.f60 (QS.vals 0 ((l,()):(Rw Edge)×Unit)) (QS.blks 0 ((l,()):(Rw Edge)×Unit)) 8 =
  QB.need (decide (l.n≤l.n)&&(true&&true)&&decide (l.n≤(1000:Nat))) (QB.leaf (AV.bool false !decide (KI (QL (JI l) l.n (0:Nat))≥(0:Int))) ([])):=by kernel_rfl
theorem QRf:Kx (mkE Try.prog Yp) (Qq Try.f60) 8 vD (fun x_=>(hnd (mkE Try.prog Yp) 0)):=by
 refine⟨?_⟩;rintro⟨l,⟨⟩⟩ hp G h1 h2;exact Qv (QR QB3) 0 G _ h1
theorem QTY:K3 (mkE Try.prog Yp) Try.f60 8 vD (fun x_=>(hnd (mkE Try.prog Yp) 0)):=by
 refine⟨?_⟩;rintro⟨l,⟨⟩⟩ hp;refine⟨⟨rfl,by simp[vD],rfl⟩,⟨?_⟩⟩
 rw[QVv l];simp only[vD]at hp;exact QF (by simpa using hp) (Ke (QC4 _) rfl)
theorem QQx:QQ Try.prog 60 QHS:=
 K9 (QR QB3) Try.func60 (by kernel_rfl) (by kernel_rfl) (by decide) QRf QTY
def Vf:Tab:=Qb Yp 60 QHS
theorem vb:QV Vf:=QB3.add QQx
def Kf{α:Type}[QA α](ty k:Nat)(l:List α)(d:α):Nat×Blk:=(k,.rowz true ty (QA.ks α) l.length fun i=>QA.enc (l.getD i d))
def KX(q:Nat→Bool):Nat→List Int
 | 0=>[]
 | k+1=>match q k with
  | true=>KX q k++[(k:Int)]
  | false=>KX q k
theorem QHZ(q:Nat→Bool):∀ k,(KX q k).length≤k
 | 0=>qlr _
 | k+1=>by
  have:=QHZ q k;simp only[KX];split<;>simp<;>omega
def Kj(l:Rw Edge)(i:Nat):Bool:=decide (YS p s (l.get i)≥least)
def ZR(l:Rw Edge)(o:List Int)(k:Int):JSt:=
 ⟨30,[(2,.int false .i64 least),(4,.ptr 8 0 0),(5,.ptr 16 0 0),(8,.slz 24 0 o.length (.of 0)),(11,.slz 3 0 l.n (.of 0)),(12,.int false .i64 l.n),(13,.int false .i64 k)],
  [(8,.cells 0 25 (Enc.enc p).cells),(16,.cells 0 30 (Enc.enc s).cells),Kf 3 24 o 0]++Qz.blk 3 l,32⟩
def QHd:Ex→List Nat
 | .normal=>[2,4,5,8,11,12,13]
 | _=>[8]
noncomputable abbrev QIb:Nat×Blk:=
  (8,.cells 0 25 [vi p.length,vi p.slack,vi p.loose,vi p.damp.lo,vi p.damp.hi])
noncomputable abbrev QEJ:Nat×Blk:=
  (16,.cells 0 30 [vi s.kind,vi s.at_.lo,vi s.at_.hi,vi s.wide.lo,vi s.wide.hi,vi s.deep.lo,.int
  false .i64 s.deep.hi])
noncomputable abbrev QG2:Nat×Blk:=
  (3,.frz [.int .i64,.int .i64,.int .i64,.int .i64,.int .i64,.int .i64,.int .i64] l.n fun i=>QA.enc (l.get i))
theorem QV1(l:Rw Edge)(o:List Int)(k:Nat)(g:Nat→Value):exec (mkE Try.prog Vf) (hnd (mkE Try.prog Vf) 0) (QZ Try.f91 0) (JSt.inst (ZR p s least l o k) g) (KW [] QHd) = .br (decide ((k:Int)<(l.n:Int))) (.need
  (decide ((0:Int)≤(k:Int)∧(k:Int)<(l.n:Int))&&decide (l.n≤l.n)) (.need (decide (k<l.n)) (.need (okP p s (l.get k)) (.br (decide (YS p s (l.get k)≥least))
  (.need (decide (o.length≤o.length)&&(true&&decide ((o.length+1+(o.length+1) / 4+192)*8≤281474976710656∧o.length+1≤9223372036854775807))) (.leaf (.tup [.nilp,
  .ptr 30 0 0,vi least,.ptr 8 0 0,.ptr 16 0 0,.slz 160 0 (o.length+1) cO,.slz 3 0 l.n cO,vi (l.n:Int),.int false .i64
  (i64.wrap ((k:Int)+1))]) ([(QIb p),(QEJ s),(160,.rowz true 3 [.int .i64] (o.length+1) (QP o.length (fun i=>QA.enc (o.getD i 0)) (QJ [[vi (k
  : Int)]] 0))),(QG2 l)]))) (.leaf (.tup [.nilp,.ptr 30 0 0,vi least,.ptr 8 0 0,.ptr 16 0 0,.slz 24 0 o.length cO,.slz 3 0 l.n cO,.int false .i64
  (l.n:Int),vi (i64.wrap ((k:Int)+1))]) ([(QIb p),(QEJ s),(24,.rowz true 3 [.int .i64] o.length fun i=>QA.enc (o.getD i 0)),(QG2 l)]))))))
  (.leaf (.tup [.ptr 0 0 0,.ptr 30 0 0,.slz 24 0 o.length cO]) ([(24,.rowz true 3 [.int .i64] o.length fun i=>QA.enc (o.getD i 0))])):=by kernel_rfl
theorem QU3(x:Int):QE 1 (o++[x]).length (QP o.length (fun i=>QA.enc (o.getD i 0)) (QJ [[AV.int false i64 x]] 0)) (fun i=>QA.enc ((o++[x]).getD i 0)):=by
 intro i hi;refine⟨?_,trivial⟩;rw[VC];rw[List.length_append,List.length_singleton]at hi;split
 ·rename_i h;show o.getD i 0=(o++[x]).getD i 0;rw[List.getD_eq_getElem?_getD,List.getD_eq_getElem?_getD,List.getElem?_append_left h]
 ·rename_i h;have:i=o.length:=by omega
  subst this;show x=(o++[x]).getD o.length 0;simp
theorem QNz(l:Rw Edge)(n:Nat)(g:Nat→Nat→Int)(i:Int)(o:List Int)(k:Int):QO 8 [vi least,.ptr 8 0 0,.ptr 16 0 0,.slz 24 0 n cO,.slz 3 0 l.n cO,vi l.n,vi i] ([(8,.cells 0 25 (Enc.enc p).cells),(16,.cells 0 30 (Enc.enc s).cells),(24,.rowz true 3 [.int .i64] n g)]++Qz.blk 3 l) (ZR p s least l o k)=(
  some [least=least,(0:Nat)=(0:Nat),(0:Nat)=(0:Nat),(0:Nat)=(0:Nat),(0:Nat)=(0:Nat),(0:Nat)=(0:Nat),n=o.length,Cap.of (0:Nat)=Cap.of (0 :
  Nat),(0:Nat)=(0:Nat),l.n=l.n,Cap.of (0:Nat)=Cap.of (0:Nat),(↑l.n:Int)=(↑l.n:Int),i=k,p.length=p.length,p.slack=p.slack,p.loose=p.loose,p.damp.lo
  = p.damp.lo,p.damp.hi=p.damp.hi,s.kind=s.kind,s.at_.lo=s.at_.lo,s.at_.hi=s.at_.hi,s.wide.lo=s.wide.lo,s.wide.hi=s.wide.hi,s.deep.lo=s.deep.lo,s.deep.hi =
  s.deep.hi,o.length≤n,QE (1:Nat) o.length g fun i=>QA.enc (o.getD i (0:Int)),l.n≤l.n,QE (7:Nat) l.n (fun i=>QA.enc (l.get i)) fun i=>QA.enc (l.get
  i)]):=by kernel_rfl
theorem QOE(l:Rw Edge)(n:Nat)(g:Nat→Nat→Int)(i:Int)(o:List Int)(k:Int):QO 8 [vi least,.ptr 8 0 0,.ptr 16 0 0,.slz 160 0 n cO,.slz 3 0 l.n cO,vi l.n,vi i] ([(8,.cells 0 25 (Enc.enc p).cells),(16,.cells 0 30 (Enc.enc s).cells),(160,.rowz true 3 [.int .i64] n g)]++Qz.blk 3 l) (ZR p s least l o k)=(
  some [least=least,(0:Nat)=(0:Nat),(0:Nat)=(0:Nat),(0:Nat)=(0:Nat),(0:Nat)=(0:Nat),(0:Nat)=(0:Nat),n=o.length,Cap.of (0:Nat)=Cap.of (0 :
  Nat),(0:Nat)=(0:Nat),l.n=l.n,Cap.of (0:Nat)=Cap.of (0:Nat),(↑l.n:Int)=(↑l.n:Int),i=k,p.length=p.length,p.slack=p.slack,p.loose=p.loose,p.damp.lo
  = p.damp.lo,p.damp.hi=p.damp.hi,s.kind=s.kind,s.at_.lo=s.at_.lo,s.at_.hi=s.at_.hi,s.wide.lo=s.wide.lo,s.wide.hi=s.wide.hi,s.deep.lo=s.deep.lo,s.deep.hi =
  s.deep.hi,o.length≤n,QE (1:Nat) o.length g fun i=>QA.enc (o.getD i (0:Int)),l.n≤l.n,QE (7:Nat) l.n (fun i=>QA.enc (l.get i)) fun i=>QA.enc (l.get
  i)]):=by kernel_rfl
def qE:JSt:=⟨30,[(8,.slz 24 0 o.length (.of 0))],[Kf 3 24 o 0],32⟩
theorem QSm(n:Nat)(g:Nat→Nat→Int)(o:List Int):QO 8 [.slz 24 0 n cO] [(24,.rowz true 3 [.int .i64] n g)] (qE o)=(
  some [(0:Nat)=(0:Nat),n=o.length,Cap.of (0:Nat)=Cap.of (0:Nat),o.length≤n,QE (1:Nat) o.length g fun i=>QA.enc (o.getD i (0:Int))]):=by kernel_rfl
def QCo:Prop:=p.ok=true∧s.ok=true∧XT (fun i=>(l.get i).ok) l.n=true∧l.n≤1000
theorem QQu(l:Rw Edge)(hl:QCo p s l):JD (fun k:Nat=>ZR p s least l (KX (Kj p s least l) k) k) (fun k=>k≤l.n) (fun k=>l.n-k) (fun _ e J=>e = .exit 0∧J=qE (KX (Kj p s least l) l.n)) 8 QHd [] (mkE Try.prog Vf) (fun _=>hnd (mkE Try.prog Vf) 0) (QZ Try.f91 0):=by
 obtain⟨h1,h2,h3,h4⟩:=hl;refine⟨fun k g hk=>⟨vY (QV1 p s least l _ k g) ?_⟩⟩;have hlen:=QHZ (Kj p s least l) k;refine QK (fun h => ?_) (fun h => ?_)
 ·have h:k<l.n:=by have:=qdt h;omega
  have hw:i64.wrap ((k:Int)+1)=((k+1:Nat):Int):=(w64 (by omega) (by omega)).trans (by omega)
  refine QF (by simp;omega) (QF (by simp;omega) (QF (by simp only[okP,h1,h2,QQG h3 h];rfl) (QK (fun hb => ?_) (fun hb => ?_))))
  ·have e:KX (Kj p s least l) (k+1)=KX (Kj p s least l) k++[(k:Int)]:=by simp only[KX,Kj];rw[hb]
   refine QF (by simp;omega) ⟨k+1,h,by show l.n-(k+1)<l.n-k;omega,fun _ _ h=>h,rfl,rfl,_,QOE _ _ _ _ _ _ _ _ _,?_⟩
   rw[e]
   repeat' first|exact trivial|with_reducible rfl|exact qlr _|exact qRr|exact hw|refine And.intro ?_ ?_
   ·simp
   ·simp
   ·exact QU3 _ _
  ·have e:KX (Kj p s least l) (k+1)=KX (Kj p s least l) k:=by simp only[KX,Kj];rw[hb]
   refine⟨k+1,h,by show l.n-(k+1)<l.n-k;omega,fun _ _ h=>h,rfl,rfl,_,QNz _ _ _ _ _ _ _ _ _,?_⟩
   rw[e]
   repeat' first|exact trivial|with_reducible rfl|exact qlr _|exact qRr|exact hw|refine And.intro ?_ ?_
 ·have:k=l.n:=by have:=of_decide_eq_false h;omega
  subst this;refine⟨_,⟨rfl,rfl⟩,rfl,rfl,_,QSm _ _ _,?_⟩
  repeat' first|exact trivial|with_reducible rfl|exact qlr _|exact qRr|refine And.intro ?_ ?_
theorem QM2(l:Rw Edge)(hl:QCo p s l)(G:Ctx)(hrd:G.rd=none)(hG:G.n=8):Q5 (mkE Try.prog Vf) G { hnd (mkE Try.prog Vf) 1 with loop:=fun _=>KE 8 [] (ZR p s least l [] (0:Nat)) [(True,.exit 0,qE (KX (Kj p s least l) l.n))] } (Qq Try.f91):=by
 refine JT (body:=QZ Try.f91 0) (QR vb) hrd (by kernel_rfl) ?_
 refine JX (n0:=8) (QR vb) (by omega) (fun s hs=>Qv (QR vb) 0 G _ hrd) (fun s hs=>(by decide:8≤32)) ?_ (QQu p s least l hl) (s0:=0) (Nat.zero_le _) ?_
 ·rintro s e J ⟨_,rfl⟩;exact(by decide:8≤32)
 ·rintro e J ⟨rfl,rfl⟩;exact⟨_,List.mem_cons_self,trivial,rfl,rfl⟩
theorem QNk:QO 8 [.slz 24 0 o.length cO] [(24,.rowz true 3 [.int .i64] o.length fun i=>QA.enc (o.getD i 0))] (K0 8 (.slz 0 0 o.length cO) [Kf 3 0 o 0])=(
  some [(0:Nat)=(0:Nat),o.length=o.length,Cap.of (0:Nat)=Cap.of (0:Nat),o.length≤o.length,QE (1:Nat) o.length (fun i=>QA.enc (o.getD i (0:Int))) fun i
  => QA.enc (o.getD i (0:Int))]):=by kernel_rfl
def qP:WF (Ql×Edge×Int×(Rw Edge)×Unit):=fun|(p,(s,(least,(l,_))))=>(p.ok&&s.ok&&XT (fun i=>(l.get i).ok) l.n&&decide (l.n≤1000),.slz 0 0 (KX (Kj p s least l) l.n).length (.of 0),[Kf 3 0 (KX (Kj p s least l) l.n) 0])
def QE0:FC:=wFC qP
theorem QR8(l:(Rw Edge)):KY (mkE Try.prog Vf) { hnd (mkE Try.prog Vf) 1 with loop:=fun _=>KE 8 [] (ZR p s least l [] (0:Nat)) [(True,.exit 0,qE (KX (Kj p s least l)
  l.n))] } Try.f91 (QS.vals 0 ((p,s,least,l,()):Ql×Edge×Int×(Rw Edge)×Unit)) (QS.blks 0 ((p,s,least,l,()):Ql×Edge×Int×(Rw Edge)×Unit)) 8 = .ask
  (least=least) (.ask (0=0) (.ask (0=0) (.ask (0=0) (.ask (0=0) (.ask (0=0) (.ask (0=0) (.ask (l.n=l.n) (.ask (cO=cO) (.ask ((l.n:Int)=(l.n:Int))
  (.ask ((0:Int)=0) (.ask (p.length=p.length) (.ask (p.slack=p.slack) (.ask (p.loose=p.loose) (.ask (p.damp.lo=p.damp.lo) (.ask (p.damp.hi=p.damp.hi) (.ask (s.kind =
  s.kind) (.ask (s.at_.lo=s.at_.lo) (.ask (s.at_.hi=s.at_.hi) (.ask (s.wide.lo=s.wide.lo) (.ask (s.wide.hi=s.wide.hi) (.ask (s.deep.lo=s.deep.lo) (.ask (s.deep.hi =
  s.deep.hi) (.ask (0=0) (.ask (l.n≤l.n) (.ask (QE 7 l.n (fun i=>QA.enc (l.get i)) fun i=>QA.enc (l.get i)) (.asm (True) (.all (fun(g0:Nat→Value) => .leaf (.slz
  24 0 (KX (Kj p s least l) l.n).length cO) ([(24,.rowz true 3 [.int .i64] (KX (Kj p s least l) l.n).length fun i=>QA.enc ((KX (Kj p s least l)
  l.n).getD i 0))]))))))))))))))))))))))))))))):=by kernel_rfl
theorem QUI:Kx (mkE Try.prog Vf) (Qq Try.f91) 8 qP (fun x_=>{ hnd (mkE Try.prog Vf) 1 with loop:=fun _=>KE 8 [] (ZR x_.1 x_.2.1 x_.2.2.1 x_.2.2.2.1 [] (0:Nat)) [(True,.exit 0,qE (KX (Kj x_.1 x_.2.1 x_.2.2.1 x_.2.2.2.1) x_.2.2.2.1.n))] }):=by
 refine⟨?_⟩;rintro⟨p,⟨s,⟨least,⟨l,⟨⟩⟩⟩⟩⟩ hp G h1 h2;exact QM2 p s least l (by simpa[qP,QCo,and_assoc]using hp) G h1 h2
theorem QO1:K3 (mkE Try.prog Vf) Try.f91 8 qP (fun x_=>{ hnd (mkE Try.prog Vf) 1 with loop:=fun _=>KE 8 [] (ZR x_.1 x_.2.1 x_.2.2.1 x_.2.2.2.1 [] (0:Nat)) [(True,.exit 0,qE (KX (Kj x_.1 x_.2.1 x_.2.2.1 x_.2.2.2.1) x_.2.2.2.1.n))] }):=by
 refine⟨?_⟩;rintro⟨p,⟨s,⟨least,⟨l,⟨⟩⟩⟩⟩⟩ hp;refine⟨⟨rfl,by simp[qP,Kf,Blk.own,Blk.all],rfl⟩,⟨?_⟩⟩
 rw[QR8 p s least l];simp only[qP]at hp
 repeat' first|refine Qa (by with_reducible rfl) ?_|refine Qa (qlr _) ?_|refine Qa (qRr) ?_
 refine KQ fun _=>KN fun g=>⟨rfl,rfl,_,QNk _,?_⟩
 repeat' first|exact trivial|with_reducible rfl|exact qlr _|exact qRr|refine And.intro ?_ ?_
theorem QOf:QQ Try.prog 91 QE0:=
 K9 (QR vb) Try.func91 (by kernel_rfl) (by kernel_rfl) (by decide) QUI QO1
def Y9:Tab:=Qb Vf 91 QE0
theorem QDl:QV Y9:=vb.add QOf
def Vd:Bool:=p.ok&&(s.ok&&XT (fun i=>(l.get i).ok) l.n)
def Xn:Int:=match Vd p s l with
 | true=>(match decide (l.n>40)with|true=>3|false=>0)
 | false=>1
def Jc(l:Rw Edge):List Int:=match Vd p s l&&decide (l.n≤40)with
 | true=>KX (Kj p s least l) l.n
 | false=>[]
theorem QOh(e f:Int)(o q:List Int):QO 8 [.tup [.nils,.nils,vj e]] [] (K0 8 (.tup [.slz 0 0 o.length cO,.slz 1 0 q.length cO,vi f]) [Kf 3 0 o 0,Kf 3 1 q 0])=(
  some [o.length=(0:Nat),q.length=(0:Nat),e=f,o.length=(0:Nat),q.length=(0:Nat)]):=by kernel_rfl
theorem QRG(n m:Nat)(g h:Nat→Nat→Int)(e f:Int)(o q:List Int):QO 8 [.tup [.slz 216 0 n cO,.slz 248 0 m cO,vj e]] [(216,.rowz true 3 [.int .i64] n g),(248,.rowz true 3 [.int .i64] m h)] (K0 8 (.tup [.slz 0 0 o.length cO,.slz 1 0 q.length cO,vi f]) [Kf 3 0 o 0,Kf 3 1 q 0])=(
  some [(0:Nat)=(0:Nat),n=o.length,Cap.of (0:Nat)=Cap.of (0:Nat),(0:Nat)=(0:Nat),m=q.length,Cap.of (0:Nat)=Cap.of (0:Nat),e=f,o.length≤n,QE
  (1:Nat) o.length g fun i=>QA.enc (o.getD i (0:Int)),q.length≤m,QE (1:Nat) q.length h fun i=>QA.enc (q.getD i (0:Int))]):=by kernel_rfl
def Z2:WF (Ql×Edge×(Rw Edge)×Unit):=fun|(p,(s,(l,_)))=>(decide (l.n≤1000),.tup [.slz 0 0 (Jc p s 2 l).length (.of 0),.slz 1 0 (Jc p s 1 l).length (.of 0),.int false .i64 (Xn p s l)],[Kf 3 0 (Jc p s 2 l) 0,Kf 3 1 (Jc p s 1 l) 0])
def QFe:FC:=wFC Z2
theorem QUu(l:(Rw Edge)):KY (mkE Try.prog Y9) (hnd (mkE Try.prog Y9) 0) Try.f72 (QS.vals 0 ((p,s,l,()):Ql×Edge×(Rw Edge)×Unit)) (QS.blks 0 ((p,s,l,()):Ql×Edge ×
  (Rw Edge)×Unit)) 8 = .need (true) (.br (!p.ok) (.leaf (.tup [.nils,.nils,vj 1]) ([])) (.need (true) (.br (!s.ok) (.leaf (.tup [.nils,.nils,vj 1]) ([]))
  (.need (decide (l.n≤l.n)&&true&&decide (l.n≤1000)) (.br (!XT (fun i=>(l.get i).ok) l.n) (.leaf (.tup [.nils,.nils,vj 1]) ([])) (.br (decide ((l.n:Int) >
  40)) (.leaf (.tup [.nils,.nils,vj 3]) ([])) (.need (true&&(true&&(true&&(decide (l.n≤l.n)&&true)))&&(p.ok&&s.ok&&XT (fun i=>(l.get i).ok) l.n &&
  decide (l.n≤1000))) (.need (true&&(true&&(true&&(decide (l.n≤l.n)&&true)))&&(p.ok&&s.ok&&XT (fun i=>(l.get i).ok) l.n&&decide (l.n≤1000))) (.leaf (.tup
  [.slz 216 0 (KX (Kj p s (2:Int) l) l.n).length cO,.slz 248 0 (KX (Kj p s (1:Int) l) l.n).length cO,vj 0]) ([(216,.rowz true 3 [.int
  .i64] (KX (Kj p s (2:Int) l) l.n).length fun i=>QA.enc ((KX (Kj p s (2:Int) l) l.n).getD i 0)),(248,.rowz true 3 [.int .i64] (KX (Kj p s (1:Int) l)
  l.n).length fun i=>QA.enc ((KX (Kj p s (1:Int) l) l.n).getD i 0))])))))))))):=by kernel_rfl
theorem QMp:Kx (mkE Try.prog Y9) (Qq Try.f72) 8 Z2 (fun x_=>(hnd (mkE Try.prog Y9) 0)):=by
 refine⟨?_⟩;rintro⟨p,⟨s,⟨l,⟨⟩⟩⟩⟩ hp G h1 h2;exact Qv (QR QDl) 0 G _ h1
theorem QTM:K3 (mkE Try.prog Y9) Try.f72 8 Z2 (fun x_=>(hnd (mkE Try.prog Y9) 0)):=by
 refine⟨?_⟩;rintro⟨p,⟨s,⟨l,⟨⟩⟩⟩⟩ hp;refine⟨⟨rfl,by simp[Z2,Kf,Blk.own,Blk.all],rfl⟩,⟨?_⟩⟩
 rw[QUu p s l];simp only[Z2]at hp;have hn:l.n≤1000:=qdt hp
 have no:∀ e:Int,Jc p s 2 l=[]→Jc p s 1 l=[]→Xn p s l=e→(QB.leaf (AV.tup [AV.nils,AV.nils,AV.int true i64 e]) []).den (XI 8 (Z2 (p,s,l,())).2.1 (Z2 (p,s,l,())).2.2):=by
  intro e h1 h2 h3;refine⟨rfl,rfl,_,QOh _ _ _ _,?_⟩;rw[h1,h2,h3];exact⟨rfl,rfl,rfl,rfl,rfl,trivial⟩
 refine QF rfl (QK (fun h => ?_) (fun h=>QF rfl (QK (fun h2 => ?_) (fun h2=>QF (by simpa using hn) (QK (fun h3 => ?_) (fun h3=>QK (fun h4 => ?_) (fun h4 => ?_)))))))
 ·have e:Vd p s l=false:=by simp[Vd]at h ⊢;simp[h]
  exact no 1 (by simp[Jc,e]) (by simp[Jc,e]) (by simp[Xn,e])
 ·have e:Vd p s l=false:=by simp[Vd]at h2 ⊢;simp[h2]
  exact no 1 (by simp[Jc,e]) (by simp[Jc,e]) (by simp[Xn,e])
 ·have e:Vd p s l=false:=by simp[Vd]at h3 ⊢;simp[h3]
  exact no 1 (by simp[Jc,e]) (by simp[Jc,e]) (by simp[Xn,e])
 ·have h4:l.n>40:=by have:=qdt h4;omega
  have e1:decide (l.n>40)=true:=decide_eq_true h4;have e2:decide (l.n≤40)=false:=decide_eq_false (by omega)
  have e:Vd p s l=true:=by simp[Vd]at h h2 h3 ⊢;exact⟨h,h2,h3⟩
  exact no 3 (by simp only[Jc,e,e2];rfl) (by simp only[Jc,e,e2];rfl) (by simp only[Xn,e,e1])
 ·have h4:¬ l.n>40:=by have:=of_decide_eq_false h4;omega
  have e1:decide (l.n>40)=false:=decide_eq_false h4;have e2:decide (l.n≤40)=true:=decide_eq_true (by omega)
  have e:Vd p s l=true:=by simp[Vd]at h h2 h3 ⊢;exact⟨h,h2,h3⟩
  have hq:(p.ok&&s.ok&&XT (fun i=>(l.get i).ok) l.n&&decide (l.n≤1000))=true:=by simp at h h2 h3;simp[h,h2,h3,hn]
  refine QF (by simp only[hq];simp) (QF (by simp only[hq];simp) ⟨rfl,rfl,_,QRG _ _ _ _ _ _ _ _,?_⟩)
  have k2:Jc p s 2 l=KX (Kj p s 2 l) l.n:=by simp only[Jc,e,e2];rfl
  have k1:Jc p s 1 l=KX (Kj p s 1 l) l.n:=by simp only[Jc,e,e2];rfl
  have k3:Xn p s l=0:=by simp only[Xn,e,e1]
  rw[k1,k2,k3]
  repeat' first|exact trivial|with_reducible rfl|exact qlr _|exact qRr|refine And.intro ?_ ?_
theorem QPH:QQ Try.prog 72 QFe:=
 K9 (QR QDl) Try.func72 (by kernel_rfl) (by kernel_rfl) (by decide) QMp QTM
def Gi:Tab:=Qb Y9 72 QFe
theorem QFW:QV Gi:=QDl.add QPH
def com(x y:Sp):Bool:=decide (x.lo≤y.hi)&&decide (y.lo≤x.hi)
def isF(b s:Edge):Bool:=(b.kind==s.kind)&&(com b.at_ s.at_&&(com b.wide s.wide&&com b.deep s.deep))
def QIv:Edge×Edge×Unit→Bool×AV:=fun|(b,(s,_))=>(true,.bool false (isF b s))
def QHj:FC:=Q3 (Q1 QIv)
theorem QQ9(b:Edge)(s:Edge):Qt (mkE Try.prog Gi) (hnd (mkE Try.prog Gi) 3) false Try.f125 (Qm.enc ((b,s,()):Edge×Edge×Unit)) [] 0 =
  QB.br (b.kind==s.kind) (QB.br (decide (b.at_.lo≤s.at_.hi)) (QB.br (decide (s.at_.lo≤b.at_.hi)) (QB.br (decide (b.wide.lo≤s.wide.hi)) (QB.br (decide (s.wide.lo ≤
  b.wide.hi)) (QB.br (decide (b.deep.lo≤s.deep.hi)) (QB.leaf (AV.bool false (decide (s.deep.lo≤b.deep.hi))) ([])) (QB.leaf (AV.bool true false) ([]))) (QB.leaf (AV.bool
  true false) ([]))) (QB.leaf (AV.bool true false) ([]))) (QB.leaf (AV.bool true false) ([]))) (QB.leaf (AV.bool true false) ([]))) (QB.leaf (AV.bool true false) ([])):=by kernel_rfl
theorem QQq:QQ Try.prog 125 QHj:=by
 refine Q7 QFW 3 Try.func125 (by kernel_rfl) (by kernel_rfl) ?_
 rintro⟨b,s,⟨⟩⟩ hp;rw[QQ9 b s];simp only[QIv,QB.den,AV.same,AV.sameL,and_true,true_and]at hp ⊢;simp only[isF,com];generalize (b.kind==s.kind)=x1;generalize decide (b.at_.lo≤s.at_.hi)=x2
 generalize decide (s.at_.lo≤b.at_.hi)=x3
 generalize decide (b.wide.lo≤s.wide.hi)=x4;generalize decide (s.wide.lo≤b.wide.hi)=x5;generalize decide (b.deep.lo≤s.deep.hi)=x6;generalize decide (s.deep.lo≤b.deep.hi)=x7;cases x1<;>cases x2<;>cases x3<;>cases x4<;>cases x5<;>cases x6<;>cases x7<;>simp
def VM:Tab:=Qb Gi 125 QHj
theorem vd:QV VM:=QFW.add QQq
structure QI where
 up:Edge
 right:Edge
 down:Edge
 left:Edge
def QI.ok(p:QI):Bool:=p.up.ok&&(p.right.ok&&(p.down.ok&&p.left.ok))
instance : QA QI where
  ks := [.int .i64,.int .i64,.int .i64,.int .i64,.int .i64,.int .i64,.int .i64,.int .i64,.int .i64,.int .i64,.int .i64,.int .i64,.int .i64,.int .i64,.int .i64,.int .i64,.int .i64,.int .i64,.int .i64,.int .i64,.int .i64,.int .i64,.int .i64,.int .i64,.int .i64,.int .i64,.int .i64,.int .i64]
  enc p j := match j with
    | 0 => p.up.kind
    | 1 => p.up.at_.lo
    | 2 => p.up.at_.hi
    | 3 => p.up.wide.lo
    | 4 => p.up.wide.hi
    | 5 => p.up.deep.lo
    | 6 => p.up.deep.hi
    | 7 => p.right.kind
    | 8 => p.right.at_.lo
    | 9 => p.right.at_.hi
    | 10 => p.right.wide.lo
    | 11 => p.right.wide.hi
    | 12 => p.right.deep.lo
    | 13 => p.right.deep.hi
    | 14 => p.down.kind
    | 15 => p.down.at_.lo
    | 16 => p.down.at_.hi
    | 17 => p.down.wide.lo
    | 18 => p.down.wide.hi
    | 19 => p.down.deep.lo
    | 20 => p.down.deep.hi
    | 21 => p.left.kind
    | 22 => p.left.at_.lo
    | 23 => p.left.at_.hi
    | 24 => p.left.wide.lo
    | 25 => p.left.wide.hi
    | 26 => p.left.deep.lo
    | _ => p.left.deep.hi
  dec f := ⟨⟨f 0,⟨f 1,f 2⟩,⟨f 3,f 4⟩,⟨f 5,f 6⟩⟩,⟨f 7,⟨f 8,f 9⟩,⟨f 10,f 11⟩,⟨f 12,f 13⟩⟩,⟨f 14,⟨f 15,f 16⟩,⟨f 17,f 18⟩,⟨f 19,f 20⟩⟩,⟨f 21,⟨f 22,f 23⟩,⟨f 24,f 25⟩,⟨f 26,f 27⟩⟩⟩
  ok _ := rfl
instance : Enc QI where
  enc p := .agg [.int false .i64 p.up.kind,.int false .i64 p.up.at_.lo,.int false .i64 p.up.at_.hi,.int false .i64 p.up.wide.lo,.int false .i64 p.up.wide.hi,.int false .i64 p.up.deep.lo,.int false .i64 p.up.deep.hi,.int false .i64 p.right.kind,.int false .i64 p.right.at_.lo,.int false .i64 p.right.at_.hi,.int false .i64 p.right.wide.lo,.int false .i64 p.right.wide.hi,.int false .i64 p.right.deep.lo,.int false .i64 p.right.deep.hi,.int false .i64 p.down.kind,.int false .i64 p.down.at_.lo,.int false .i64 p.down.at_.hi,.int false .i64 p.down.wide.lo,.int false .i64 p.down.wide.hi,.int false .i64 p.down.deep.lo,.int false .i64 p.down.deep.hi,.int false .i64 p.left.kind,.int false .i64 p.left.at_.lo,.int false .i64 p.left.at_.hi,.int false .i64 p.left.wide.lo,.int false .i64 p.left.wide.hi,.int false .i64 p.left.deep.lo,.int false .i64 p.left.deep.hi]
  dec
    | .agg [.int _ .i64 a0,.int _ .i64 a1,.int _ .i64 a2,.int _ .i64 a3,.int _ .i64 a4,.int _ .i64 a5,.int _ .i64 a6,.int _ .i64 a7,.int _ .i64 a8,.int _ .i64 a9,.int _ .i64 a10,.int _ .i64 a11,.int _ .i64 a12,.int _ .i64 a13,.int _ .i64 a14,.int _ .i64 a15,.int _ .i64 a16,.int _ .i64 a17,.int _ .i64 a18,.int _ .i64 a19,.int _ .i64 a20,.int _ .i64 a21,.int _ .i64 a22,.int _ .i64 a23,.int _ .i64 a24,.int _ .i64 a25,.int _ .i64 a26,.int _ .i64 a27] => some ⟨⟨a0,⟨a1,a2⟩,⟨a3,a4⟩,⟨a5,a6⟩⟩,⟨a7,⟨a8,a9⟩,⟨a10,a11⟩,⟨a12,a13⟩⟩,⟨a14,⟨a15,a16⟩,⟨a17,a18⟩,⟨a19,a20⟩⟩,⟨a21,⟨a22,a23⟩,⟨a24,a25⟩,⟨a26,a27⟩⟩⟩
    | _ => none
  ok v x h := by
    split at h <;> (try (cases h; done))
    simp only[qsI]at h; subst h;exact⟨fun _ => rfl,rfl⟩
structure Puz where
 play:Ql
 wide:Int
 high:Int
 turn:Bool
 ps:Rw QI
instance : Qz Puz where
  val k x := .agg [.int false .i64 x.play.length,.int false .i64 x.play.slack,.int false .i64 x.play.loose,.int false .i64 x.play.damp.lo,.int false .i64 x.play.damp.hi,.int false .i64 x.wide,.int false .i64 x.high,.bool false x.turn,Qz.val k x.ps]
  blk k x := Qz.blk k x.ps
  dec v lk := match v with
    | .agg [.int _ .i64 a,.int _ .i64 b,.int _ .i64 c,.int _ .i64 d,.int _ .i64 e,.int _ .i64 f,.int _ .i64 g,.bool _ t,s] => (match (Qz.dec s lk : Option (Bool × Rw QI))with
      | some (p,x) => some (p,⟨⟨a,b,c,⟨d,e⟩⟩,f,g,t,x⟩)
      | none => none)
    | _ => none
  ok v lk p x h hp := by
    split at h <;> (try (cases h; done))
    split at h <;> (try (cases h; done))
    rename_i a b c d e f g t s p' x' hd;simp only[qsI,qpI]at h;obtain⟨rfl,rfl⟩ := h;obtain⟨h1,h2⟩ := Qz.ok _ _ _ _ hd hp;refine⟨fun k => ⟨?_,(h1 k).2⟩,fun r w hb => ?_⟩
    · have := (h1 k).1
      simp only[AV.all,AV.allL,Bool.true_and,Bool.and_true]; exact this
    · obtain⟨l,hl⟩ := h2 r w hb
      refine⟨l,fun k r' hr => ⟨?_,(hl k r' hr).2⟩⟩;have := (hl k r' hr).1;simp only[AV.den,AV.denL]at this ⊢;rw[this]
def QMZ:AV→Bool
 | .agg _=>true
 | _=>false
theorem QSu{v:AV}(h:QMZ v=true):∃ l,v = .agg l:=by
 cases v<;>first|(cases h;done)|exact⟨_,rfl⟩
structure FnC (α:Type) (g ty:Nat) where
 x:α
instance {α : Type} [Enc α] (g ty : Nat) : Qz (FnC α g ty) where
  val k _ := .fn (.func g) [.ptr k 0 0]
  blk k x := [(k,.cellsR 0 ty (Enc.enc x.x).cells)]
  dec v lk := match v with
    | .fn (.func g') [.ptr id e j] => (match Nat.beq g' g && (Nat.beq e 0 && Nat.beq j 0)with
      | true => (match lk id with
        | some (.cellsR z ty' l) => (match Nat.beq ty' ty && Nat.beq z 0 with
          | true => (match (Enc.dec (.agg l) : Option α)with
            | some a => (match QMZ (Enc.enc a)with | true => some (true,⟨a⟩) | false => none)
            | none => none)
          | false => none)
        | _ => none)
      | false => none)
    | _ => none
  ok v lk p x h _ := by
    split at h <;> (try (cases h; done))
    rename_i g' id e j;split at h <;> (try (cases h; done))
    rename_i hg;split at h <;> (try (cases h; done))
    rename_i z ty' l hlk;split at h <;> (try (cases h; done))
    rename_i hz;split at h <;> (try (cases h; done))
    rename_i a ha;split at h <;> (try (cases h; done))
    rename_i hagg;simp only[qbA]at hg hz;have hg1 := Nat.eq_of_beq_eq_true hg.1;have he := Nat.eq_of_beq_eq_true hg.2.1;have hj := Nat.eq_of_beq_eq_true hg.2.2;have ht := Nat.eq_of_beq_eq_true hz.1;have hz0 := Nat.eq_of_beq_eq_true hz.2;subst hg1 he hj ht hz0;simp only[qsI,qpI]at h;obtain⟨_,rfl⟩ := h;obtain⟨k1,k2⟩ := Enc.ok _ _ ha;obtain⟨l',hl'⟩ := QSu hagg;rw[hl']at k1 k2;have hcl : (Enc.enc a).cells = l' := by rw[hl']; rfl
    have k3 : ∀ r,AV.denL r l' = AV.denL r l := fun r => by
      have := k1 r;simp only[AV.den,Value.agg.injEq]at this;exact Array.toList_inj.2 this |> fun h => by simpa using h
    refine⟨fun k => ⟨by simp[AV.all,AV.allL],fun q hq => ?_⟩,fun r w hb => ⟨r id,fun k r' hr => ⟨?_,fun q hq => ?_⟩⟩⟩
    · simp only[List.mem_singleton]at hq; subst hq
      refine⟨rfl,rfl,?_⟩;show AV.allL _ (Enc.enc a).cells = true;rw[hcl]; exact k2
    · simp only[AV.den,AV.denL,hr]
    · simp only[List.mem_singleton]at hq; subst hq
      obtain⟨b1,b2,b3⟩ := hb _ _ hlk;refine⟨by rw[hr]; exact b1,by rw[hr]; exact b2,?_⟩
      show bk w (r' k).blk = some (.cells (AV.denL r' (Enc.enc a).cells).toArray _ _);rw[hr,hcl,denL_congr (p := fun _ => false) (r := r') (r' := r) (fun _ hf => by cases hf) _ k2,k3 r]
      exact b3
abbrev Ja:Type:=FnC Ql 71 25
def Kl:Edge:=⟨0,⟨0,0⟩,⟨0,0⟩,⟨0,0⟩⟩
def Km(m:Ja)(l:Rw QI)(i:Nat):Bool := !(m.x.ok&&(l.get i).ok)
theorem QFT(x:QI)(L:Rw Edge)(hn:L.n=4)(h0:L.get 0=x.up)(h1:L.get 1=x.right)(h2:L.get 2=x.down)(h3:L.get 3=x.left):(Xn p Kl L != 0) = !(p.ok&&x.ok):=by
 have z:Kl.ok=true:=by decide
 have e:Vd p Kl L=(p.ok&&x.ok):=by
  simp only[Vd,z,XT,QL,hn,h0,h1,h2,h3,QI.ok,Bool.true_and];cases p.ok<;>cases x.up.ok<;>cases x.right.ok<;>cases x.down.ok<;>cases x.left.ok<;>rfl
 have d:decide (L.n>40)=false:=by rw[hn];rfl
 simp only[Xn,e,d];cases p.ok&&x.ok<;>rfl
def idp(l:Rw QI)(m:Ja):List (Nat×Blk):=Qz.blk 0 l++Qz.blk 1 m
def Hr(l:Rw QI)(m:Ja)(k:Nat):JSt:=⟨19,[(0,.slz 0 0 l.n (.of 0)),(1,Qz.val 1 m),(7,.int false .i64 l.n),(8,.int false .i64 k)],idp l m,8⟩
noncomputable abbrev WP(l:Rw QI):List AV:=
  [vi (l.get k).up.kind,vi (l.get k).up.at_.lo,vi (l.get k).up.at_.hi,vi (l.get k).up.wide.lo,vi (l.get
  k).up.wide.hi,vi (l.get k).up.deep.lo,vi (l.get k).up.deep.hi]
noncomputable abbrev Z8(l:Rw QI):List AV:=
  [vi (l.get k).right.kind,vi (l.get k).right.at_.lo,vi (l.get k).right.at_.hi,vi (l.get k).right.wide.lo,.int false .i64
  (l.get k).right.wide.hi,vi (l.get k).right.deep.lo,vi (l.get k).right.deep.hi]
noncomputable abbrev Zu(l:Rw QI):List AV:=
  [vi (l.get k).down.kind,vi (l.get k).down.at_.lo,vi (l.get k).down.at_.hi,vi (l.get k).down.wide.lo,vi (l.get
  k).down.wide.hi,vi (l.get k).down.deep.lo,vi (l.get k).down.deep.hi]
noncomputable abbrev Z7(l:Rw QI):List AV:=
  [vi (l.get k).left.kind,vi (l.get k).left.at_.lo,vi (l.get k).left.at_.hi,vi (l.get k).left.wide.lo,vi (l.get
  k).left.wide.hi,vi (l.get k).left.deep.lo,vi (l.get k).left.deep.hi]
theorem QQK(l:Rw QI)(m:Ja)(k:Nat)(g:Nat→Value):exec (mkE Try.prog VM) (hnd (mkE Try.prog VM) 4) (QZ Try.f90 0) (JSt.inst (Hr l m k) g) (KW [] Wv) = .br (decide ((k:Int)<(l.n:Int))) (.need (decide ((0 :
  Int)≤(k:Int)∧(k:Int)<(l.n:Int))&&decide (l.n≤l.n)) (.need (decide (k<l.n)) (.need (true&&(true&&(true&&true))&&decide (4≤1000)) (.br (Xn m.x (Edge.mk
  (0:Int) (Sp.mk (0:Int) (0:Int)) (Sp.mk (0:Int) (0:Int)) (Sp.mk (0:Int) (0:Int))) (Rw.mk 4 fun i=>Edge.mk (QJ [(WP k l),(Z8 k l),(Zu k l),(Z7 k l)] 0 i
  0) (Sp.mk (QJ [(WP k l),(Z8 k l),(Zu k l),(Z7 k l)] 0 i 1) (QJ [(WP k l),(Z8 k l),(Zu k l),(Z7 k l)] 0 i 2)) (Sp.mk (QJ [(WP k l),(Z8 k l),(Zu k
  l),(Z7 k l)] 0 i 3) (QJ [(WP k l),(Z8 k l),(Zu k l),(Z7 k l)] 0 i 4)) (Sp.mk (QJ [(WP k l),(Z8 k l),(Zu k l),(Z7 k l)] 0 i 5) (QJ [(WP k l),(Z8 k
  l),(Zu k l),(Z7 k l)] 0 i 6))) != 0) (.leaf (.tup [.nili,.ptr 19 0 0,vi (k:Int)]) ([])) (.leaf (.tup [.nilp,.ptr 19 0 0,.slz 0 0 l.n cO,.fn
  (Fn.func 71) [.ptr 1 0 0],vi (l.n:Int),vi (i64.wrap ((k:Int)+1))]) ([(0,.frz [.int .i64,.int .i64,.int .i64,.int .i64,.int .i64,.int
  .i64,.int .i64,.int .i64,.int .i64,.int .i64,.int .i64,.int .i64,.int .i64,.int .i64,.int .i64,.int .i64,.int .i64,.int .i64,.int .i64,.int .i64,.int .i64,.int .i64,
  .int .i64,.int .i64,.int .i64,.int .i64,.int .i64,.int .i64] l.n fun i=>QA.enc (l.get i)),(1,.cellsR 0 25 [vi m.x.length,vi m.x.slack,.int
  false .i64 m.x.loose,vi m.x.damp.lo,vi m.x.damp.hi])])))))) (.leaf (.tup [.ptr 0 0 0,.ptr 19 0 0]) ([])):=by kernel_rfl
def QIy(l:Rw QI)(m:Ja)(k:Nat)(e:Ex)(J:JSt):Prop:=(e = .ret∧(QL (Km m l) (l.n-k) k).isSome=true∧J=⟨19,[(4,.int false .i64 (KI (QL (Km m l) (l.n-k) k)))],[],8⟩)∨(e = .exit 0∧QL (Km m l) (l.n-k) k=none∧J=⟨19,[],[],8⟩)
theorem QSp(l:Rw QI)(m:Ja)(k:Nat)(i:Int):QO 8 [.slz 0 0 l.n cO,Qz.val 1 m,vi l.n,vi i] (idp l m) (Hr l m k)=(
  some [(0:Nat)=(0:Nat),l.n=l.n,Cap.of (0:Nat)=Cap.of (0:Nat),Fn.func (71:Nat)=Fn.func (71:Nat),(0:Nat)=(0:Nat),(0:Nat)=(0:Nat),(↑l.n:Int) =
  (↑l.n:Int),i=(↑k:Int),l.n≤l.n,QE (28:Nat) l.n (fun i=>QA.enc (l.get i)) fun i=>QA.enc (l.get i),m.x.length=m.x.length,m.x.slack=m.x.slack,m.x.loose =
  m.x.loose,m.x.damp.lo=m.x.damp.lo,m.x.damp.hi=m.x.damp.hi]):=by kernel_rfl
theorem QWJ(l:Rw QI)(m:Ja)(hl:l.n≤1000):JD (Hr l m) (fun k=>k≤l.n) (fun k=>l.n-k) (QIy l m) 8 Wv [] (mkE Try.prog VM) (fun _=>hnd (mkE Try.prog VM) 4) (QZ Try.f90 0):=by
 refine⟨fun k g hk=>⟨vY (QQK l m k g) ?_⟩⟩;refine QK (fun h => ?_) (fun h => ?_)
 ·have h:k<l.n:=by have:=qdt h;omega
  obtain⟨n,hm⟩:∃ n,l.n-k=n+1:=⟨l.n-k-1,by omega⟩
  have hm':l.n-(k+1)=n:=by omega
  refine QF (by simp;omega) (QF (by simp;omega) (QF rfl (QK (fun hb => ?_) (fun hb => ?_))))
  ·have hf:QL (Km m l) (l.n-k) k=some k:=by rw[hm,QL];unfold Km;rw[(QFT m.x (l.get k) _ rfl rfl rfl rfl rfl).symm.trans hb]
   exact⟨_,.inl ⟨rfl,by rw[hf];rfl,rfl⟩,rfl,rfl,_,WY _ _,by rw[hf];exact⟨rfl,trivial⟩⟩
  ·have hf:QL (Km m l) (l.n-k) k=QL (Km m l) (l.n-(k+1)) (k+1):=by rw[hm,hm',QL];unfold Km;rw[(QFT m.x (l.get k) _ rfl rfl rfl rfl rfl).symm.trans hb]
   refine⟨k+1,by omega,by show l.n-(k+1)<l.n-k;omega,fun e J h=>by unfold QIy at h ⊢;rw[hf];exact h,rfl,rfl,_,QSp _ _ _ _,?_⟩
   repeat' first|exact trivial|with_reducible rfl|exact qlr _|exact qRr|exact(w64 (by omega) (by omega)).trans (by omega)|refine And.intro ?_ ?_
 ·have h:l.n≤k:=by have:=of_decide_eq_false h;omega
  have hf:QL (Km m l) (l.n-k) k=none:=by rw[show l.n-k=0 by omega];rfl
  exact⟨_,.inr ⟨rfl,hf,rfl⟩,rfl,rfl,_,QBk,trivial⟩
def QSf(l:Rw QI)(m:Ja):List (Prop×Ex×JSt):=[((QL (Km m l) l.n 0).isSome=true,.ret,⟨19,[(4,.int false .i64 (KI (QL (Km m l) l.n 0)))],[],8⟩),(QL (Km m l) l.n 0=none,.exit 0,⟨19,[],[],8⟩)]
abbrev QAX(l:Rw QI)(m:Ja):Code→St→(Ex→St→QB)→QB:=fun _=>KE 8 [] (Hr l m 0) (QSf l m)
theorem QPi(l:Rw QI)(m:Ja)(hl:l.n≤1000)(G:Ctx)(hrd:G.rd=none)(hG:G.n=8):Q5 (mkE Try.prog VM) G { hnd (mkE Try.prog VM) 1 with loop:=QAX l m } (Qq Try.f90):=by
 refine JT (body:=QZ Try.f90 0) (QR vd) hrd (by kernel_rfl) ?_
 refine JX (n0:=8) (QR vd) (by omega) (fun s hs=>Qv (QR vd) 4 G _ hrd) (fun s hs=>qlr _) ?_ (QWJ l m hl) (s0:=0) (Nat.zero_le _) ?_
 ·rintro s e J (⟨_,_,rfl⟩|⟨_,_,rfl⟩)<;>exact qlr _
 ·rintro e J (⟨rfl,h,rfl⟩|⟨rfl,h,rfl⟩)
  ·exact⟨_,List.mem_cons_self,h,rfl,rfl⟩
  ·exact⟨_,List.mem_cons_of_mem _ List.mem_cons_self,h,rfl,rfl⟩
def vo:WF ((Rw QI)×Ja×Unit):=fun|(l,(m,_))=>(decide (l.n≤1000),.int false .i64 (KI (QL (Km m l) l.n 0)),[])
def QKA:FC:=wFC vo
theorem QTg(l:(Rw QI))(m:Ja):KY (mkE Try.prog VM) { hnd (mkE Try.prog VM) 1 with loop:=QAX l m } Try.f90 (QS.vals 0 ((l,m,()):(Rw QI)×Ja×Unit)) (QS.blks 0 ((l,m,()):(Rw QI)×Ja×Unit)) 8 =
  QB.ask ((0:Nat)=(0:Nat)) (QB.ask (l.n=l.n) (QB.ask (Cap.of (0:Nat)=Cap.of (0:Nat)) (QB.ask (Fn.func (71:Nat)=Fn.func (71:Nat)) (QB.ask ((0:Nat)=(0
  : Nat)) (QB.ask ((0:Nat)=(0:Nat)) (QB.ask ((↑l.n:Int)=(↑l.n:Int)) (QB.ask ((0:Int)=(0:Int)) (QB.ask (l.n≤l.n) (QB.ask (QE (28:Nat) l.n (fun i=>
  QA.enc (l.get i)) fun i=>QA.enc (l.get i)) (QB.ask (m.x.length=m.x.length) (QB.ask (m.x.slack=m.x.slack) (QB.ask (m.x.loose=m.x.loose) (QB.ask (m.x.damp.lo =
  m.x.damp.lo) (QB.ask (m.x.damp.hi=m.x.damp.hi) (QB.both (QB.asm ((QL (Km m l) l.n (0:Nat)).isSome=true) (QB.all (fun(g0:Nat→Value)=>QB.leaf (AV.int
  false i64 (KI (QL (Km m l) l.n (0:Nat)))) ([])))) (QB.asm (QL (Km m l) l.n (0:Nat)=none) (QB.all (fun(g1:Nat→Value)=>QB.leaf (AV.int true
  i64 (-1:Int)) ([]))))))))))))))))))):=by kernel_rfl
theorem QOI:Kx (mkE Try.prog VM) (Qq Try.f90) 8 vo (fun x_=>{ hnd (mkE Try.prog VM) 1 with loop:=QAX x_.1 x_.2.1 }):=by
 refine⟨?_⟩;rintro⟨l,⟨m,⟨⟩⟩⟩ hp G h1 h2;exact QPi l m (qdt hp) G h1 h2
theorem QOt:K3 (mkE Try.prog VM) Try.f90 8 vo (fun x_=>{ hnd (mkE Try.prog VM) 1 with loop:=QAX x_.1 x_.2.1 }):=by
 refine⟨?_⟩;rintro⟨l,⟨m,⟨⟩⟩⟩ hp;refine⟨⟨rfl,by simp[vo],rfl⟩,⟨?_⟩⟩
 rw[QTg l m];simp only[vo]at hp
 repeat' first|refine Qa (by with_reducible rfl) ?_|refine Qa (qlr _) ?_|refine Qa (qRr) ?_|refine Qa (show _=_ from rfl) ?_
 refine XQ (KQ fun h=>KN fun g => ?_) (KQ fun h=>KN fun g => ?_)
 ·exact Ke ⟨rfl,rfl⟩ rfl
 ·exact Ke ⟨rfl,by show(-1:Int)=KI (QL (Km m l) l.n 0);rw[h];rfl⟩ rfl
theorem QMm:QQ Try.prog 90 QKA:=
 K9 (QR vd) Try.func90 (by kernel_rfl) (by kernel_rfl) (by decide) QOI QOt
def Ym:Tab:=Qb VM 90 QKA
theorem QBA:QV Ym:=vd.add QMm
def vv:WF ((Rw QI)×Ja×Unit):=fun|(l,(m,_))=>(decide (l.n≤1000),.bool false (decide (KI (QL (Km m l) l.n 0)≥0)),[])
def QG5:FC:=wFC vv
theorem QOu(l:(Rw QI))(m:Ja):KY (mkE Try.prog Ym) (hnd (mkE Try.prog Ym) 0) Try.f70 (QS.vals 0 ((l,m,()):(Rw QI)×Ja×Unit)) (QS.blks 0 ((l,m,()):(Rw QI)×Ja×Unit)) 8 =
  QB.need (decide (l.n≤l.n)&&(true&&true)&&decide (l.n≤(1000:Nat))) (QB.leaf (AV.bool false (decide (KI (QL (Km m l) l.n (0:Nat))≥(0:Int)))) ([])):=by kernel_rfl
theorem QVA:Kx (mkE Try.prog Ym) (Qq Try.f70) 8 vv (fun x_=>(hnd (mkE Try.prog Ym) 0)):=by
 refine⟨?_⟩;rintro⟨l,⟨m,⟨⟩⟩⟩ hp G h1 h2;exact Qv (QR QBA) 0 G _ h1
theorem QUV:K3 (mkE Try.prog Ym) Try.f70 8 vv (fun x_=>(hnd (mkE Try.prog Ym) 0)):=by
 refine⟨?_⟩;rintro⟨l,⟨m,⟨⟩⟩⟩ hp;refine⟨⟨rfl,by simp[vv],rfl⟩,⟨?_⟩⟩
 rw[QOu l m];simp only[vv]at hp;exact QF (by simpa using hp) (Ke rfl rfl)
theorem QTE:QQ Try.prog 70 QG5:=
 K9 (QR QBA) Try.func70 (by kernel_rfl) (by kernel_rfl) (by decide) QVA QUV
def QAT:Tab:=Qb Ym 70 QG5
theorem QKx:QV QAT:=QBA.add QTE
def Js(l:Rw QI):Bool:=(QL (Km ⟨p⟩ l) l.n 0).isNone
def QG9:Int×Int×Int×Unit→Bool×AV:=fun|(n,(a,(b,_)))=>(true,.bool false (QX n a b))
def QIT:FC:=Q3 (Q1 QG9)
theorem QOy(n:Int)(a:Int)(b:Int):Qt (mkE Try.prog QAT) (hnd (mkE Try.prog QAT) 2) false Try.f66 (Qm.enc ((n,a,b,()):Int×Int×Int×Unit)) [] 0 =
  QB.br (decide (a≤n)) (QB.leaf (AV.bool false (decide (n≤b))) ([])) (QB.leaf (AV.bool true false) ([])):=by kernel_rfl
theorem QVy:QQ Try.prog 66 QIT:=by
 refine Q7 QKx 2 Try.func66 (by kernel_rfl) (by kernel_rfl) ?_
 rintro⟨n,a,b,⟨⟩⟩ hp;rw[QOy n a b];simp only[QG9,QB.den,AV.same,AV.sameL,and_true,true_and]at hp ⊢
 (repeat' (first|(refine And.intro ?_ ?_)|(intro _)))<;>simp_all [QX]<;>omega
def Y6:Tab:=Qb QAT 66 QIT
theorem QDg:QV Y6:=QKx.add QVy
def jj:WF (Ql×(Rw QI)×Unit):=fun|(p,(l,_))=>(decide (l.n≤1000),.bool false (Js p l),[])
def QJo:FC:=wFC jj
theorem QWR(l:(Rw QI)):KY (mkE Try.prog Y6) (hnd (mkE Try.prog Y6) 0) Try.f42 (QS.vals 0 ((p,l,()):Ql×(Rw QI)×Unit)) (QS.blks 0 ((p,l,()):Ql×(Rw QI)×Unit)) 8 =
  QB.need (decide (l.n≤l.n)&&(true&&true)&&decide (l.n≤(1000:Nat))) (QB.leaf (AV.bool false !decide (KI (QL (Km (FnC.mk p) l) l.n (0:Nat))≥(0:Int)))
  ([])):=by kernel_rfl
theorem QVT:Kx (mkE Try.prog Y6) (Qq Try.f42) 8 jj (fun x_=>(hnd (mkE Try.prog Y6) 0)):=by
 refine⟨?_⟩;rintro⟨p,⟨l,⟨⟩⟩⟩ hp G h1 h2;exact Qv (QR QDg) 0 G _ h1
theorem QVZ:K3 (mkE Try.prog Y6) Try.f42 8 jj (fun x_=>(hnd (mkE Try.prog Y6) 0)):=by
 refine⟨?_⟩;rintro⟨p,⟨l,⟨⟩⟩⟩ hp;refine⟨⟨rfl,by simp[jj],rfl⟩,⟨?_⟩⟩
 rw[QWR p l];simp only[jj]at hp;exact QF (by simpa using hp) (Ke (QC4 _) rfl)
theorem QNR:QQ Try.prog 42 QJo:=
 K9 (QR QDg) Try.func42 (by kernel_rfl) (by kernel_rfl) (by decide) QVT QVZ
def ZO:Tab:=Qb Y6 42 QJo
theorem QBr:QV ZO:=QDg.add QNR
def Puz.okN(d:Puz):Bool:=QX (d.ps.n:Int) 1 9&&(QX d.wide 1 d.ps.n&&(QX d.high 1 d.ps.n&&i64.wrap (d.wide*d.high)==(d.ps.n:Int)))
def Puz.ok(d:Puz):Bool:=d.okN&&Js d.play d.ps
def Ze:WF (Puz×Unit):=fun|(d,_)=>(decide (d.ps.n≤1000),.bool false d.ok,[])
def QGW:FC:=wFC Ze
theorem QVR(d:Puz):KY (mkE Try.prog ZO) (hnd (mkE Try.prog ZO) 0) Try.f37 (QS.vals 0 ((d,()):Puz×Unit)) (QS.blks 0 ((d,()):Puz×Unit)) 8 =
  QB.need (true) (QB.br (QX (↑d.ps.n:Int) (1:Int) (9:Int)) (QB.need (true) (QB.br (QX d.wide (1:Int) (↑d.ps.n:Int)) (QB.need (true) (QB.br (QX d.high
  (1:Int) (↑d.ps.n:Int)) (QB.br (i64.wrap (d.wide*d.high)==(↑d.ps.n:Int)) (QB.need (true&&(decide (d.ps.n≤d.ps.n)&&true)&&decide (d.ps.n≤(1000:Nat)))
  (QB.leaf (AV.bool false (Js d.play d.ps)) ([]))) (QB.leaf (AV.bool true false) ([]))) (QB.leaf (AV.bool true false) ([])))) (QB.leaf (AV.bool true false) ([]))))
  (QB.leaf (AV.bool true false) ([]))):=by kernel_rfl
theorem QUS:Kx (mkE Try.prog ZO) (Qq Try.f37) 8 Ze (fun x_=>(hnd (mkE Try.prog ZO) 0)):=by
 refine⟨?_⟩;rintro⟨d,⟨⟩⟩ hp G h1 h2;exact Qv (QR QBr) 0 G _ h1
theorem QUM:K3 (mkE Try.prog ZO) Try.f37 8 Ze (fun x_=>(hnd (mkE Try.prog ZO) 0)):=by
 refine⟨?_⟩;rintro⟨d,⟨⟩⟩ hp;refine⟨⟨rfl,by simp[Ze],rfl⟩,⟨?_⟩⟩
 rw[QVR d];simp only[Ze]at hp;have no:d.okN=false→(QB.leaf (AV.bool true false) []).den (XI 8 (Ze (d,())).2.1 (Ze (d,())).2.2):=fun h=>Ke (show false=d.ok by rw[Puz.ok,h];rfl) rfl
 refine QF rfl (QK (fun h1=>QF rfl (QK (fun h2=>QF rfl (QK (fun h3=>QK (fun h4=>QF (by simpa using hp) (Ke (show Js d.play d.ps=d.ok by rw[Puz.ok,Puz.okN,h1,h2,h3,h4];rfl) rfl)) (fun h4=>no (by rw[Puz.okN,h1,h2,h3,h4];rfl))) (fun h3=>no (by rw[Puz.okN,h1,h2,h3];rfl)))) (fun h2=>no (by rw[Puz.okN,h1,h2];rfl)))) (fun h1=>no (by rw[Puz.okN,h1];rfl)))
theorem QPp:QQ Try.prog 37 QGW:=
 K9 (QR QBr) Try.func37 (by kernel_rfl) (by kernel_rfl) (by decide) QUS QUM
def Hb:Tab:=Qb ZO 37 QGW
theorem QIB:QV Hb:=QBr.add QPp
def Gu(s:Int):Int:=(s+2).tmod 4
def QIJ:Int×Unit→Bool×AV:=fun|(s,_)=>(decide (0≤s∧s≤3),.int false .i64 (Gu s))
def QK4:FC:=Q3 (Q1 QIJ)
theorem QQR(s:Int):Qt (mkE Try.prog Hb) (hnd (mkE Try.prog Hb) 2) false Try.f39 (Qm.enc ((s,()):Int×Unit)) [] 0 =
  QB.leaf (AV.int false i64 ((i64.wrap (s+(2:Int))).tmod (4:Int))) ([]):=by kernel_rfl
theorem QS9:QQ Try.prog 39 QK4:=by
 refine Q7 QIB 2 Try.func39 (by kernel_rfl) (by kernel_rfl) ?_
 rintro⟨s,⟨⟩⟩ hp;rw[QQR s];simp only[QIJ,QB.den,AV.same,AV.sameL,and_true,true_and]at hp ⊢;have hp:=qdt hp;show(i64.wrap (s+2)).tmod 4=Gu s;rw[w64 (by omega) (by omega)];rfl
def Yw:Tab:=Qb Hb 39 QK4
theorem QCe:QV Yw:=QIB.add QS9
def QT(wide high cell side:Int):Int:=
 cond (side==0&&decide (0<cell.tdiv wide)) (cell-wide) (cond (side==1&&decide (cell.tmod wide<wide-1)) (cell+1)
  (cond (side==2&&decide (cell.tdiv wide<high-1)) (cell+wide) (cond (side==3&&decide (0<cell.tmod wide)) (cell-1) (-1))))
def Z4:WF (Puz×Int×Int×Unit):=fun|(d,(c,(s,_)))=>(decide ((1≤d.wide∧d.wide≤100)∧(1≤d.high∧d.high≤100)∧(0≤c∧c≤100)),.int false .i64 (QT d.wide d.high c s),[])
def QKy:FC:=wFC Z4
theorem QO8(d:Puz)(c:Int)(s:Int):KY (mkE Try.prog Yw) (hnd (mkE Try.prog Yw) 0) Try.f38 (QS.vals 0 ((d,c,s,()):Puz×Int×Int×Unit)) (QS.blks 0 ((d,c,s,()):Puz×Int×Int ×
  Unit)) 8 = .need (!decide (d.wide=0)) (.need (!decide (d.wide=0)) (.br (s==0) (.br (decide (i64.wrap (c.tdiv d.wide)>0)) (.leaf (.int false .i64 (i64.wrap (c
  - d.wide))) ([])) (.br (s==1) (.br (decide (c.tmod d.wide<i64.wrap (d.wide-1))) (.leaf (.int false .i64 (i64.wrap (c+1))) ([])) (.br (s==2) (.br (decide
  (i64.wrap (c.tdiv d.wide)<i64.wrap (d.high-1))) (.leaf (.int false .i64 (i64.wrap (c+d.wide))) ([])) (.br (s==3) (.br (decide (c.tmod d.wide>0))
  (.leaf (.int false .i64 (i64.wrap (c-1))) ([])) (.leaf (.int true .i64 (-1)) ([]))) (.leaf (.int true .i64 (-1)) ([])))) (.br (s==3) (.br (decide (c.tmod d.wide>0))
  (.leaf (.int false .i64 (i64.wrap (c-1))) ([])) (.leaf (.int true .i64 (-1)) ([]))) (.leaf (.int true .i64 (-1)) ([]))))) (.br (s==2) (.br (decide (i64.wrap
  (c.tdiv d.wide)<i64.wrap (d.high-1))) (.leaf (.int false .i64 (i64.wrap (c+d.wide))) ([])) (.br (s==3) (.br (decide (c.tmod d.wide>0)) (.leaf (.int false
  .i64 (i64.wrap (c-1))) ([])) (.leaf (.int true .i64 (-1)) ([]))) (.leaf (.int true .i64 (-1)) ([])))) (.br (s==3) (.br (decide (c.tmod d.wide>0)) (.leaf (.int false
  .i64 (i64.wrap (c-1))) ([])) (.leaf (.int true .i64 (-1)) ([]))) (.leaf (.int true .i64 (-1)) ([])))))) (.br (s==1) (.br (decide (c.tmod d.wide<i64.wrap
  (d.wide-1))) (.leaf (.int false .i64 (i64.wrap (c+1))) ([])) (.br (s==2) (.br (decide (i64.wrap (c.tdiv d.wide)<i64.wrap (d.high-1))) (.leaf (.int
  false .i64 (i64.wrap (c+d.wide))) ([])) (.br (s==3) (.br (decide (c.tmod d.wide>0)) (.leaf (.int false .i64 (i64.wrap (c-1))) ([])) (.leaf (.int true .i64
  (-1)) ([]))) (.leaf (.int true .i64 (-1)) ([])))) (.br (s==3) (.br (decide (c.tmod d.wide>0)) (.leaf (.int false .i64 (i64.wrap (c-1))) ([])) (.leaf (.int true .i64
  (-1)) ([]))) (.leaf (.int true .i64 (-1)) ([]))))) (.br (s==2) (.br (decide (i64.wrap (c.tdiv d.wide)<i64.wrap (d.high-1))) (.leaf (.int false .i64
  (i64.wrap (c+d.wide))) ([])) (.br (s==3) (.br (decide (c.tmod d.wide>0)) (.leaf (.int false .i64 (i64.wrap (c-1))) ([])) (.leaf (.int true .i64 (-1)) ([])))
  (.leaf (.int true .i64 (-1)) ([])))) (.br (s==3) (.br (decide (c.tmod d.wide>0)) (.leaf (.int false .i64 (i64.wrap (c-1))) ([])) (.leaf (.int true .i64 (-1)) ([])))
  (.leaf (.int true .i64 (-1)) ([]))))))):=by kernel_rfl
theorem QNG:Kx (mkE Try.prog Yw) (Qq Try.f38) 8 Z4 (fun x_=>(hnd (mkE Try.prog Yw) 0)):=by
 refine⟨?_⟩;rintro⟨d,⟨c,⟨s,⟨⟩⟩⟩⟩ hp G h1 h2;exact Qv (QR QCe) 0 G _ h1
theorem QRt:K3 (mkE Try.prog Yw) Try.f38 8 Z4 (fun x_=>(hnd (mkE Try.prog Yw) 0)):=by
 refine⟨?_⟩;rintro⟨d,⟨c,⟨s,⟨⟩⟩⟩⟩ hp;refine⟨⟨rfl,by simp[Z4],rfl⟩,⟨?_⟩⟩
 rw[QO8 d c s];simp only[Z4]at hp;obtain⟨⟨w1,w2⟩,⟨h1,h2⟩,c1,c2⟩:=qdt hp;have q0:0≤c.tdiv d.wide:=Int.tdiv_nonneg c1 (by omega)
 have q1:c.tdiv d.wide≤c:=by rw[Int.tdiv_eq_ediv_of_nonneg c1];exact Int.ediv_le_self _ c1
 have m0:0≤c.tmod d.wide:=Int.tmod_nonneg _ c1;have m1:c.tmod d.wide<d.wide:=Int.tmod_lt_of_pos _ (by omega)
 have e1:i64.wrap (c.tdiv d.wide)=c.tdiv d.wide:=w64 (by omega) (by omega)
 have e2:i64.wrap (c-d.wide)=c-d.wide:=w64 (by omega) (by omega)
 have e3:i64.wrap (d.wide-1)=d.wide-1:=w64 (by omega) (by omega)
 have e4:i64.wrap (c+1)=c+1:=w64 (by omega) (by omega)
 have e5:i64.wrap (d.high-1)=d.high-1:=w64 (by omega) (by omega)
 have e6:i64.wrap (c+d.wide)=c+d.wide:=w64 (by omega) (by omega)
 have e7:i64.wrap (c-1)=c-1:=w64 (by omega) (by omega)
 have dz:(!decide (d.wide=0))=true:=by simp;omega
 rw[e1,e2,e3,e4,e5,e6,e7];refine QF dz (QF dz ?_);have fin:∀ v:AV,v.same (.int false .i64 (QT d.wide d.high c s))→(QB.leaf v []).den (XI 8 (Z4 (d,c,s,())).2.1 (Z4 (d,c,s,())).2.2):=fun v h=>Ke h rfl
 repeat' refine QK (fun _ => ?_) (fun _ => ?_)
 all_goals refine fin _ ?_
 all_goals simp only[AV.same,QT,true_and]
 all_goals grind
theorem QNI:QQ Try.prog 38 QKy:=
 K9 (QR QCe) Try.func38 (by kernel_rfl) (by kernel_rfl) (by decide) QNG QRt
def Xe:Tab:=Qb Yw 38 QKy
theorem jh:QV Xe:=QCe.add QNI
end Go.Proofs.Ytbpffdkemeoajaa
