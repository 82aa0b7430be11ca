/- - -/
import Derived.Test.YtbpffdkemeoajaaMoo
import Derived.Test.YtbpffdkemeoajaaMoq
open Go.IntKind (i64)
set_option maxRecDepth 100000
namespace Go.Proofs.Ytbpffdkemeoajaa
open Go.SX
def QV(fn:Func)(k:Nat):Code:=match (Kj (Qr fn))[k]? with
 | some (.loop b)=>b
 | _ => .skip
instance : QA Edge where
  ks := [.int .i64,.int .i64,.int .i64,.int .i64,.int .i64,.int .i64,.int .i64]
  enc e j := match j with
    | 0 => e.kind
    | 1 => e.at_.lo
    | 2 => e.at_.hi
    | 3 => e.wide.lo
    | 4 => e.wide.hi
    | 5 => e.deep.lo
    | _ => e.deep.hi
  dec f := ⟨f 0,⟨f 1,f 2⟩,⟨f 3,f 4⟩,⟨f 5,f 6⟩⟩
  ok _ := rfl
structure FnK (g:Nat) where
 u:Unit
instance (g : Nat) : Enc (FnK g) where
  enc _ := .fn (.func g) []
  dec v := match v with
    | .fn (.func g') [] => (match Nat.beq g' g with | true => some ⟨()⟩ | false => none)
    | _ => none
  ok v x h := by
    split at h <;> (try (cases h; done))
    split at h <;> (try (cases h; done))
    rename_i hg;have := Nat.eq_of_beq_eq_true hg;subst this;exact⟨fun _ => rfl,rfl⟩
def QO(p:Nat→Bool):Nat→Nat→Option Nat
 | 0,_=>none
 | m+1,k=>match p k with
  | true=>some k
  | false=>QO p m (k+1)
def KR:Option Nat→Int
 | some i=>i
 | none => -1
def Xf(p:Nat→Bool)(n:Nat):Bool:=(QO (fun i => !p i) n 0).isNone
theorem Ws{p:Nat→Bool}:∀{m k:Nat},QO p m k=none→∀ i,k≤i→i<k+m→p i=false
 | 0,k,_,i,h1,h2=>by omega
 | m+1,k,h,i,h1,h2=>by
  simp only[QO]at h;split at h
  ·cases h
  ·rename_i hk;rcases Nat.eq_or_lt_of_le h1 with rfl|hlt
   ·exact hk
   ·exact Ws h i hlt (by omega)
theorem QP1{p:Nat→Bool}{n:Nat}(h:Xf p n=true){i:Nat}(hi:i<n):p i=true:=by
 unfold Xf at h;rw[Option.isNone_iff_eq_none]at h;have:=Ws h i (Nat.zero_le _) (by omega)
 simpa using this
theorem QA0{p:Nat→Bool}:∀{m k:Nat},(∀ i,k≤i→i<k+m→p i=false)→QO p m k=none
 | 0,_,_=>rfl
 | m+1,k,h=>by
  simp only[QO];rw[h k (qlr _) (by omega)]
  exact QA0 fun i h1 h2=>h i (by omega) (by omega)
def QJR:Edge×Unit→Bool×AV:=fun|(s,_)=>(true,.bool false (!s.ok))
def QLG:FC:=Q3 (Q2 QJR)
variable (p:Qg)(s:Edge)(k:Nat)(l:Rw Edge)(least:Int)(o:List Int)
theorem QTJ:Qx (mkE Try.prog GO) (hnd (mkE Try.prog GO) 0) false Try.f84 (Qm.enc ((s,()):Edge×Unit)) [] 0 =
  QD.need (true) (QD.leaf (AV.bool false !s.ok) ([])):=by kernel_rfl
theorem QVK:QQ Try.prog 84 QLG:=by
 refine KA QHb 0 Try.func84 (by kernel_rfl) (by kernel_rfl) ?_
 rintro⟨s,⟨⟩⟩ hp;rw[QTJ s];simp only[QJR,QD.den,AV.same,AV.sameL,and_true,true_and]at hp ⊢
def Xg:Tab:=Qh GO 84 QLG
theorem vc:QW Xg:=QHb.add QVK
def JP(i:Nat):Bool := !(l.get i).ok
def GN(k:Nat):JSt:=⟨19,[(0,.slz 0 0 l.n (.of 0)),(1,.fn (.func 84) []),(7,.int false .i64 l.n),(8,.int false .i64 k)],Q4.blk 0 l,8⟩
def jH:Ex→List Nat
 | .normal=>[0,1,7,8]
 | .exit _=>[]
 | .ret=>[4]
theorem QXB(k:Nat)(g:Nat→Value):exec (mkE Try.prog Xg) (hnd (mkE Try.prog Xg) 0) (QV Try.f96 0) (JSt.inst (GN l k) g) (KH [] jH) =
  QD.br (decide ((↑k:Int)<(↑l.n:Int))) (QD.need (decide ((0:Int)≤(↑k:Int)∧(↑k:Int)<(↑l.n:Int))&&decide (l.n≤l.n)) (QD.need (decide (k<l.n)) (QD.need
  (true) (QD.br (!(l.get k).ok) (QD.leaf (AV.tup [AV.nili,AV.ptr (19:Nat) (0:Nat) (0:Nat),AV.int false i64 (↑k:Int)]) ([])) (QD.leaf (AV.tup [AV.nilp,AV.ptr
  (19:Nat) (0:Nat) (0:Nat),AV.slz (0:Nat) (0:Nat) l.n (Cap.of (0:Nat)),AV.fn (Fn.func (84:Nat)) [],AV.int false i64 (↑l.n:Int),AV.int false i64
  (i64.wrap ((↑k:Int)+(1:Int)))]) ([((0:Nat),Blk.frz [CK.int i64,CK.int i64,CK.int i64,CK.int i64,CK.int i64,CK.int
  i64,CK.int i64] l.n fun i=>QA.enc (l.get i))])))))) (QD.leaf (AV.tup [AV.ptr (0:Nat) (0:Nat) (0:Nat),AV.ptr (19:Nat) (0:Nat) (0:Nat)]) ([])):=by kernel_rfl
def QMG(k:Nat)(e:Ex)(J:JSt):Prop:=(e = .ret∧(QO (JP l) (l.n-k) k).isSome=true∧J=⟨19,[(4,.int false .i64 (KR (QO (JP l) (l.n-k) k)))],[],8⟩)∨(e = .exit 0∧QO (JP l) (l.n-k) k=none∧J=⟨19,[],[],8⟩)
theorem QRs(k:Nat)(i:Int):QM 8 [.slz 0 0 l.n cO,.fn (.func 84) [],vi l.n,vi i] (Q4.blk 0 l) (GN l k)=(
  some [(0:Nat)=(0:Nat),l.n=l.n,Cap.of (0:Nat)=Cap.of (0:Nat),Fn.func (84:FuncId)=Fn.func (84:FuncId),(↑l.n:Int)=(↑l.n:Int),i=(↑k:Int),l.n≤l.n,
  QE (7:Nat) l.n (fun i=>QA.enc (l.get i)) fun i=>QA.enc (l.get i)]):=by kernel_rfl
theorem WE(i j:Int):QM 8 [vi i] [] ⟨19,[(4,vi j)],[],8⟩=(
  some [i=j]):=by kernel_rfl
theorem QBI :QM 8 [] [] ⟨19,[],[],8⟩=(
  some []):=by kernel_rfl
theorem QVc(hl:l.n≤1000):Kz (GN l) (fun k=>k≤l.n) (fun k=>l.n-k) (QMG l) 8 jH [] (mkE Try.prog Xg) (fun _=>hnd (mkE Try.prog Xg) 0) (QV Try.f96 0):=by
 refine⟨fun k g hk=>⟨jt (QXB l k g) ?_⟩⟩;refine QI (fun h => ?_) (fun h => ?_)
 ·have h:k<l.n:=by have:=qdt h;omega
  obtain⟨m,hm⟩:∃ m,l.n-k=m+1:=⟨l.n-k-1,by omega⟩
  have hm':l.n-(k+1)=m:=by omega
  refine QG (by simp;omega) (QG (by simp;omega) (QG rfl (QI (fun hb => ?_) (fun hb => ?_))))
  ·have hf:QO (JP l) (l.n-k) k=some k:=by rw[hm,QO];unfold JP;rw[hb]
   exact⟨_,.inl ⟨rfl,by rw[hf];rfl,rfl⟩,rfl,rfl,_,WE _ _,by rw[hf];exact⟨rfl,trivial⟩⟩
  ·have hf:QO (JP l) (l.n-k) k=QO (JP l) (l.n-(k+1)) (k+1):=by rw[hm,hm',QO];unfold JP;rw[hb]
   refine⟨k+1,by omega,by show l.n-(k+1)<l.n-k;omega,fun e J h=>by unfold QMG at h ⊢;rw[hf];exact h,rfl,rfl,_,QRs _ _ _,?_⟩
   exact⟨rfl,rfl,rfl,rfl,rfl,(w64 (by omega) (by omega)).trans (by omega),qlr _,qRr,trivial⟩
 ·have h:l.n≤k:=by have:=of_decide_eq_false h;omega
  have hf:QO (JP l) (l.n-k) k=none:=by rw[show l.n-k=0 by omega];rfl
  exact⟨_,.inr ⟨rfl,hf,rfl⟩,rfl,rfl,_,QBI,trivial⟩
def QVy:List (Prop×Ex×JSt):=[((QO (JP l) l.n 0).isSome=true,.ret,⟨19,[(4,.int false .i64 (KR (QO (JP l) l.n 0)))],[],8⟩),(QO (JP l) l.n 0=none,.exit 0,⟨19,[],[],8⟩)]
abbrev QAB(P:Program)(l:Rw Edge):Hnd:={ hnd (mkE P Xg) 1 with loop:=fun _=>KD 8 [] (GN l 0) (QVy l) }
theorem QWb(hl:l.n≤1000)(G:Ctx)(hrd:G.rd=none)(hG:G.n=8):Q9 (mkE Try.prog Xg) G (QAB Try.prog l) (Qr Try.f96):=by
 refine JM (body:=QV Try.f96 0) (QT vc) hrd (by kernel_rfl) ?_
 refine JE (n0:=8) (QT vc) (by omega) (fun s hs=>Q0 (QT vc) 0 G _ hrd) (fun s hs=>qlr _) ?_ (QVc l hl) (s0:=0) (Nat.zero_le _) ?_
 ·rintro s e J (⟨_,_,rfl⟩|⟨_,_,rfl⟩)<;>exact qlr _
 ·rintro e J (⟨rfl,h,rfl⟩|⟨rfl,h,rfl⟩)
  ·exact⟨_,List.mem_cons_self,h,rfl,rfl⟩
  ·exact⟨_,List.mem_cons_of_mem _ List.mem_cons_self,h,rfl,rfl⟩
theorem QQa(x:FnK 84):Ka (mkE Try.prog Xg) (QAB Try.prog l) Try.f96 (QY.vals 0 (l,x,())) (QY.blks 0 (l,x,())) 8 =
  QD.ask ((0:Nat)=(0:Nat)) (QD.ask (l.n=l.n) (QD.ask (Cap.of (0:Nat)=Cap.of (0:Nat)) (QD.ask (Fn.func (84:Nat)=Fn.func (84:FuncId)) (QD.ask ((↑l.n:Int)
  = (↑l.n:Int)) (QD.ask ((0:Int)=(0:Int)) (QD.ask (l.n≤l.n) (QD.ask (QE (7:Nat) l.n (fun i=>QA.enc (l.get i)) fun i=>QA.enc (l.get i)) (QD.both
  (QD.asm ((QO (JP l) l.n (0:Nat)).isSome=true) (QD.all (fun(g0:Nat→Value)=>QD.leaf (AV.int false i64 (KR (QO (JP l) l.n (0:Nat)))) ([]))))
  (QD.asm (QO (JP l) l.n (0:Nat)=none) (QD.all (fun(g1:Nat→Value)=>QD.leaf (AV.int true i64 (-1:Int)) ([])))))))))))):=by kernel_rfl
def GR:WF (Rw Edge×FnK 84×Unit):=fun x=>(decide (x.1.n≤1000),.int false .i64 (KR (QO (JP x.1) x.1.n 0)),[])
def QFr:FC:=wFC GR
theorem QOT:K6 (mkE Try.prog Xg) (Qr Try.f96) 8 GR (fun x=>QAB Try.prog x.1):=
 ⟨fun x hx G h1 h2=>QWb x.1 (qdt hx) G h1 h2⟩
theorem QUV:K5 (mkE Try.prog Xg) Try.f96 8 GR (fun x=>QAB Try.prog x.1):=by
 refine⟨?_⟩;rintro⟨l,x,⟨⟩⟩ hp;refine⟨⟨rfl,by simp[GR],rfl⟩,⟨?_⟩⟩
 rw[QQa l x];refine QU rfl (QU rfl (QU rfl (QU rfl (QU rfl (QU rfl (QU (qlr _) (QU (qRr) (X0 (KB fun h=>KE fun g => ?_) (KB fun h=>KE fun g => ?_)))))))))
 ·exact Kg ⟨rfl,rfl⟩ rfl
 ·exact Kg ⟨rfl,by show(-1:Int)=KR (QO (JP l) l.n 0);rw[h];rfl⟩ rfl
theorem QXR:QQ Try.prog 96 QFr:=
 JK (QT vc) Try.func96 (by kernel_rfl) (by kernel_rfl) (by decide) QOT QUV
def Zi:Tab:=Qh Xg 96 QFr
theorem QET:QW Zi:=vc.add QXR
def zH:WF ((Rw Edge)×(FnK 84)×Unit):=fun|(l,(x,_))=>(decide (l.n≤1000),.bool false (decide (KR (QO (JP l) l.n 0)≥0)),[])
def QGI:FC:=wFC zH
theorem QWv(l:(Rw Edge))(x:(FnK 84)):Ka (mkE Try.prog Zi) (hnd (mkE Try.prog Zi) 0) Try.f83 (QY.vals 0 ((l,x,()):(Rw Edge)×(FnK 84)×Unit)) (QY.blks 0 ((l,x,()):(Rw Edge)×(FnK 84)×Unit)) 8 =
  QD.need (decide (l.n≤l.n)&&(true&&true)&&decide (l.n≤(1000:Nat))) (QD.leaf (AV.bool false (decide (KR (QO (JP l) l.n (0:Nat))≥(0:Int)))) ([])):=by kernel_rfl
theorem QTP:K6 (mkE Try.prog Zi) (Qr Try.f83) 8 zH (fun x_=>(hnd (mkE Try.prog Zi) 0)):=by
 refine⟨?_⟩;rintro⟨l,⟨x,⟨⟩⟩⟩ hp G h1 h2;exact Q0 (QT QET) 0 G _ h1
theorem QWC:K5 (mkE Try.prog Zi) Try.f83 8 zH (fun x_=>(hnd (mkE Try.prog Zi) 0)):=by
 refine⟨?_⟩;rintro⟨l,⟨x,⟨⟩⟩⟩ hp;refine⟨⟨rfl,by simp[zH],rfl⟩,⟨?_⟩⟩
 rw[QWv l x];simp only[zH]at hp;exact QG (by simpa using hp) (Kg rfl rfl)
theorem QTM:QQ Try.prog 83 QGI:=
 JK (QT QET) Try.func83 (by kernel_rfl) (by kernel_rfl) (by decide) QTP QWC
def Yr:Tab:=Qh Zi 83 QGI
theorem QBV:QW Yr:=QET.add QTM
theorem QA1:∀(o:Option Nat),(!decide (KR o≥0))=o.isNone
 | some i=>by simp[KR]
 | none=>rfl
def zd:WF ((Rw Edge)×Unit):=fun|(l,_)=>(decide (l.n≤1000),.bool false (Xf (fun i=>(l.get i).ok) l.n),[])
def QIt:FC:=wFC zd
theorem QWs(l:(Rw Edge)):Ka (mkE Try.prog Yr) (hnd (mkE Try.prog Yr) 0) Try.f60 (QY.vals 0 ((l,()):(Rw Edge)×Unit)) (QY.blks 0 ((l,()):(Rw Edge)×Unit)) 8 =
  QD.need (decide (l.n≤l.n)&&(true&&true)&&decide (l.n≤(1000:Nat))) (QD.leaf (AV.bool false !decide (KR (QO (JP l) l.n (0:Nat))≥(0:Int))) ([])):=by kernel_rfl
theorem QWG:K6 (mkE Try.prog Yr) (Qr Try.f60) 8 zd (fun x_=>(hnd (mkE Try.prog Yr) 0)):=by
 refine⟨?_⟩;rintro⟨l,⟨⟩⟩ hp G h1 h2;exact Q0 (QT QBV) 0 G _ h1
theorem QOW:K5 (mkE Try.prog Yr) Try.f60 8 zd (fun x_=>(hnd (mkE Try.prog Yr) 0)):=by
 refine⟨?_⟩;rintro⟨l,⟨⟩⟩ hp;refine⟨⟨rfl,by simp[zd],rfl⟩,⟨?_⟩⟩
 rw[QWs l];simp only[zd]at hp;exact QG (by simpa using hp) (Kg (QA1 _) rfl)
theorem QQU:QQ Try.prog 60 QIt:=
 JK (QT QBV) Try.func60 (by kernel_rfl) (by kernel_rfl) (by decide) QWG QOW
def VU:Tab:=Qh Yr 60 QIt
theorem jw:QW VU:=QBV.add QQU
def KQ{α:Type}[QA α](ty k:Nat)(l:List α)(d:α):Nat×Blk:=(k,.rowz true ty (QA.ks α) l.length fun i=>QA.enc (l.getD i d))
def Kb(q:Nat→Bool):Nat→List Int
 | 0=>[]
 | k+1=>match q k with
  | true=>Kb q k++[(k:Int)]
  | false=>Kb q k
theorem QLs(q:Nat→Bool):∀ k,(Kb q k).length≤k
 | 0=>qlr _
 | k+1=>by
  have:=QLs q k;simp only[Kb];split<;>simp<;>omega
def Kl(l:Rw Edge)(i:Nat):Bool:=decide (Vx p s (l.get i)≥least)
def ZT(l:Rw Edge)(o:List Int)(k:Int):JSt:=
 ⟨30,[(2,.int false .i64 least),(4,.ptr 8 0 0),(5,.ptr 16 0 0),(8,.slz 24 0 o.length (.of 0)),(11,.slz 3 0 l.n (.of 0)),(12,.int false .i64 l.n),(13,.int false .i64 k)],
  [(8,.cells 0 25 (Enc.enc p).cells),(16,.cells 0 30 (Enc.enc s).cells),KQ 3 24 o 0]++Q4.blk 3 l,32⟩
def QHI:Ex→List Nat
 | .normal=>[2,4,5,8,11,12,13]
 | _=>[8]
noncomputable abbrev QGY:Nat×Blk:=
  (8,.cells 0 25 [vi p.length,vi p.slack,vi p.loose,vi p.damp.lo,vi p.damp.hi])
noncomputable abbrev QJu:Nat×Blk:=
  (16,.cells 0 30 [vi s.kind,vi s.at_.lo,vi s.at_.hi,vi s.wide.lo,vi s.wide.hi,vi s.deep.lo,.int
  false .i64 s.deep.hi])
noncomputable abbrev QFz:Nat×Blk:=
  (3,.frz [.int .i64,.int .i64,.int .i64,.int .i64,.int .i64,.int .i64,.int .i64] l.n fun i=>QA.enc (l.get i))
theorem QUW(l:Rw Edge)(o:List Int)(k:Nat)(g:Nat→Value):exec (mkE Try.prog VU) (hnd (mkE Try.prog VU) 0) (QV Try.f91 0) (JSt.inst (ZT p s least l o k) g) (KH [] QHI) = .br (decide ((k:Int)<(l.n:Int))) (.need
  (decide ((0:Int)≤(k:Int)∧(k:Int)<(l.n:Int))&&decide (l.n≤l.n)) (.need (decide (k<l.n)) (.need (okP p s (l.get k)) (.br (decide (Vx p s (l.get k)≥least))
  (.need (decide (o.length≤o.length)&&(true&&decide ((o.length+1+(o.length+1) / 4+192)*8≤281474976710656∧o.length+1≤9223372036854775807))) (.leaf (.tup [.nilp,
  .ptr 30 0 0,vi least,.ptr 8 0 0,.ptr 16 0 0,.slz 160 0 (o.length+1) cO,.slz 3 0 l.n cO,vi (l.n:Int),.int false .i64
  (i64.wrap ((k:Int)+1))]) ([(QGY p),(QJu s),(160,.rowz true 3 [.int .i64] (o.length+1) (Qd o.length (fun i=>QA.enc (o.getD i 0)) (QS [[vi (k
  : Int)]] 0))),(QFz l)]))) (.leaf (.tup [.nilp,.ptr 30 0 0,vi least,.ptr 8 0 0,.ptr 16 0 0,.slz 24 0 o.length cO,.slz 3 0 l.n cO,.int false .i64
  (l.n:Int),vi (i64.wrap ((k:Int)+1))]) ([(QGY p),(QJu s),(24,.rowz true 3 [.int .i64] o.length fun i=>QA.enc (o.getD i 0)),(QFz l)]))))))
  (.leaf (.tup [.ptr 0 0 0,.ptr 30 0 0,.slz 24 0 o.length cO]) ([(24,.rowz true 3 [.int .i64] o.length fun i=>QA.enc (o.getD i 0))])):=by kernel_rfl
theorem QOX(x:Int):QE 1 (o++[x]).length (Qd o.length (fun i=>QA.enc (o.getD i 0)) (QS [[AV.int false i64 x]] 0)) (fun i=>QA.enc ((o++[x]).getD i 0)):=by
 intro i hi;refine⟨?_,trivial⟩;rw[XP];rw[List.length_append,List.length_singleton]at hi;split
 ·rename_i h;show o.getD i 0=(o++[x]).getD i 0;rw[List.getD_eq_getElem?_getD,List.getD_eq_getElem?_getD,List.getElem?_append_left h]
 ·rename_i h;have:i=o.length:=by omega
  subst this;show x=(o++[x]).getD o.length 0;simp
theorem QOG(l:Rw Edge)(n:Nat)(g:Nat→Nat→Int)(i:Int)(o:List Int)(k:Int):QM 8 [vi least,.ptr 8 0 0,.ptr 16 0 0,.slz 24 0 n cO,.slz 3 0 l.n cO,vi l.n,vi i] ([(8,.cells 0 25 (Enc.enc p).cells),(16,.cells 0 30 (Enc.enc s).cells),(24,.rowz true 3 [.int .i64] n g)]++Q4.blk 3 l) (ZT p s least l o k)=(
  some [least=least,(0:Nat)=(0:Nat),(0:Nat)=(0:Nat),(0:Nat)=(0:Nat),(0:Nat)=(0:Nat),(0:Nat)=(0:Nat),n=o.length,Cap.of (0:Nat)=Cap.of (0 :
  Nat),(0:Nat)=(0:Nat),l.n=l.n,Cap.of (0:Nat)=Cap.of (0:Nat),(↑l.n:Int)=(↑l.n:Int),i=k,p.length=p.length,p.slack=p.slack,p.loose=p.loose,p.damp.lo
  = p.damp.lo,p.damp.hi=p.damp.hi,s.kind=s.kind,s.at_.lo=s.at_.lo,s.at_.hi=s.at_.hi,s.wide.lo=s.wide.lo,s.wide.hi=s.wide.hi,s.deep.lo=s.deep.lo,s.deep.hi =
  s.deep.hi,o.length≤n,QE (1:Nat) o.length g fun i=>QA.enc (o.getD i (0:Int)),l.n≤l.n,QE (7:Nat) l.n (fun i=>QA.enc (l.get i)) fun i=>QA.enc (l.get
  i)]):=by kernel_rfl
theorem QPq(l:Rw Edge)(n:Nat)(g:Nat→Nat→Int)(i:Int)(o:List Int)(k:Int):QM 8 [vi least,.ptr 8 0 0,.ptr 16 0 0,.slz 160 0 n cO,.slz 3 0 l.n cO,vi l.n,vi i] ([(8,.cells 0 25 (Enc.enc p).cells),(16,.cells 0 30 (Enc.enc s).cells),(160,.rowz true 3 [.int .i64] n g)]++Q4.blk 3 l) (ZT p s least l o k)=(
  some [least=least,(0:Nat)=(0:Nat),(0:Nat)=(0:Nat),(0:Nat)=(0:Nat),(0:Nat)=(0:Nat),(0:Nat)=(0:Nat),n=o.length,Cap.of (0:Nat)=Cap.of (0 :
  Nat),(0:Nat)=(0:Nat),l.n=l.n,Cap.of (0:Nat)=Cap.of (0:Nat),(↑l.n:Int)=(↑l.n:Int),i=k,p.length=p.length,p.slack=p.slack,p.loose=p.loose,p.damp.lo
  = p.damp.lo,p.damp.hi=p.damp.hi,s.kind=s.kind,s.at_.lo=s.at_.lo,s.at_.hi=s.at_.hi,s.wide.lo=s.wide.lo,s.wide.hi=s.wide.hi,s.deep.lo=s.deep.lo,s.deep.hi =
  s.deep.hi,o.length≤n,QE (1:Nat) o.length g fun i=>QA.enc (o.getD i (0:Int)),l.n≤l.n,QE (7:Nat) l.n (fun i=>QA.enc (l.get i)) fun i=>QA.enc (l.get
  i)]):=by kernel_rfl
def qj:JSt:=⟨30,[(8,.slz 24 0 o.length (.of 0))],[KQ 3 24 o 0],32⟩
theorem QRx(n:Nat)(g:Nat→Nat→Int)(o:List Int):QM 8 [.slz 24 0 n cO] [(24,.rowz true 3 [.int .i64] n g)] (qj o)=(
  some [(0:Nat)=(0:Nat),n=o.length,Cap.of (0:Nat)=Cap.of (0:Nat),o.length≤n,QE (1:Nat) o.length g fun i=>QA.enc (o.getD i (0:Int))]):=by kernel_rfl
def QCq:Prop:=p.ok=true∧s.ok=true∧Xf (fun i=>(l.get i).ok) l.n=true∧l.n≤1000
theorem QR3(l:Rw Edge)(hl:QCq p s l):Kz (fun k:Nat=>ZT p s least l (Kb (Kl p s least l) k) k) (fun k=>k≤l.n) (fun k=>l.n-k) (fun _ e J=>e = .exit 0∧J=qj (Kb (Kl p s least l) l.n)) 8 QHI [] (mkE Try.prog VU) (fun _=>hnd (mkE Try.prog VU) 0) (QV Try.f91 0):=by
 obtain⟨h1,h2,h3,h4⟩:=hl;refine⟨fun k g hk=>⟨jt (QUW p s least l _ k g) ?_⟩⟩;have hlen:=QLs (Kl p s least l) k;refine QI (fun h => ?_) (fun h => ?_)
 ·have h:k<l.n:=by have:=qdt h;omega
  have hw:i64.wrap ((k:Int)+1)=((k+1:Nat):Int):=(w64 (by omega) (by omega)).trans (by omega)
  refine QG (by simp;omega) (QG (by simp;omega) (QG (by simp only[okP,h1,h2,QP1 h3 h];rfl) (QI (fun hb => ?_) (fun hb => ?_))))
  ·have e:Kb (Kl p s least l) (k+1)=Kb (Kl p s least l) k++[(k:Int)]:=by simp only[Kb,Kl];rw[hb]
   refine QG (by simp;omega) ⟨k+1,h,by show l.n-(k+1)<l.n-k;omega,fun _ _ h=>h,rfl,rfl,_,QPq _ _ _ _ _ _ _ _ _,?_⟩
   rw[e]
   repeat' first|exact trivial|with_reducible rfl|exact qlr _|exact qRr|exact hw|refine And.intro ?_ ?_
   ·simp
   ·simp
   ·exact QOX _ _
  ·have e:Kb (Kl p s least l) (k+1)=Kb (Kl p s least l) k:=by simp only[Kb,Kl];rw[hb]
   refine⟨k+1,h,by show l.n-(k+1)<l.n-k;omega,fun _ _ h=>h,rfl,rfl,_,QOG _ _ _ _ _ _ _ _ _,?_⟩
   rw[e]
   repeat' first|exact trivial|with_reducible rfl|exact qlr _|exact qRr|exact hw|refine And.intro ?_ ?_
 ·have:k=l.n:=by have:=of_decide_eq_false h;omega
  subst this;refine⟨_,⟨rfl,rfl⟩,rfl,rfl,_,QRx _ _ _,?_⟩
  repeat' first|exact trivial|with_reducible rfl|exact qlr _|exact qRr|refine And.intro ?_ ?_
theorem QM9(l:Rw Edge)(hl:QCq p s l)(G:Ctx)(hrd:G.rd=none)(hG:G.n=8):Q9 (mkE Try.prog VU) G { hnd (mkE Try.prog VU) 1 with loop:=fun _=>KD 8 [] (ZT p s least l [] (0:Nat)) [(True,.exit 0,qj (Kb (Kl p s least l) l.n))] } (Qr Try.f91):=by
 refine JM (body:=QV Try.f91 0) (QT jw) hrd (by kernel_rfl) ?_
 refine JE (n0:=8) (QT jw) (by omega) (fun s hs=>Q0 (QT jw) 0 G _ hrd) (fun s hs=>(by decide:8≤32)) ?_ (QR3 p s least l hl) (s0:=0) (Nat.zero_le _) ?_
 ·rintro s e J ⟨_,rfl⟩;exact(by decide:8≤32)
 ·rintro e J ⟨rfl,rfl⟩;exact⟨_,List.mem_cons_self,trivial,rfl,rfl⟩
theorem QN8:QM 8 [.slz 24 0 o.length cO] [(24,.rowz true 3 [.int .i64] o.length fun i=>QA.enc (o.getD i 0))] (Kr 8 (.slz 0 0 o.length cO) [KQ 3 0 o 0])=(
  some [(0:Nat)=(0:Nat),o.length=o.length,Cap.of (0:Nat)=Cap.of (0:Nat),o.length≤o.length,QE (1:Nat) o.length (fun i=>QA.enc (o.getD i (0:Int))) fun i
  => QA.enc (o.getD i (0:Int))]):=by kernel_rfl
def qi:WF (Qg×Edge×Int×(Rw Edge)×Unit):=fun|(p,(s,(least,(l,_))))=>(p.ok&&s.ok&&Xf (fun i=>(l.get i).ok) l.n&&decide (l.n≤1000),.slz 0 0 (Kb (Kl p s least l) l.n).length (.of 0),[KQ 3 0 (Kb (Kl p s least l) l.n) 0])
def QJD:FC:=wFC qi
theorem QPo(l:(Rw Edge)):Ka (mkE Try.prog VU) { hnd (mkE Try.prog VU) 1 with loop:=fun _=>KD 8 [] (ZT p s least l [] (0:Nat)) [(True,.exit 0,qj (Kb (Kl p s least l)
  l.n))] } Try.f91 (QY.vals 0 ((p,s,least,l,()):Qg×Edge×Int×(Rw Edge)×Unit)) (QY.blks 0 ((p,s,least,l,()):Qg×Edge×Int×(Rw Edge)×Unit)) 8 = .ask
  (least=least) (.ask (0=0) (.ask (0=0) (.ask (0=0) (.ask (0=0) (.ask (0=0) (.ask (0=0) (.ask (l.n=l.n) (.ask (cO=cO) (.ask ((l.n:Int)=(l.n:Int))
  (.ask ((0:Int)=0) (.ask (p.length=p.length) (.ask (p.slack=p.slack) (.ask (p.loose=p.loose) (.ask (p.damp.lo=p.damp.lo) (.ask (p.damp.hi=p.damp.hi) (.ask (s.kind =
  s.kind) (.ask (s.at_.lo=s.at_.lo) (.ask (s.at_.hi=s.at_.hi) (.ask (s.wide.lo=s.wide.lo) (.ask (s.wide.hi=s.wide.hi) (.ask (s.deep.lo=s.deep.lo) (.ask (s.deep.hi =
  s.deep.hi) (.ask (0=0) (.ask (l.n≤l.n) (.ask (QE 7 l.n (fun i=>QA.enc (l.get i)) fun i=>QA.enc (l.get i)) (.asm (True) (.all (fun(g0:Nat→Value) => .leaf (.slz
  24 0 (Kb (Kl p s least l) l.n).length cO) ([(24,.rowz true 3 [.int .i64] (Kb (Kl p s least l) l.n).length fun i=>QA.enc ((Kb (Kl p s least l)
  l.n).getD i 0))]))))))))))))))))))))))))))))):=by kernel_rfl
theorem QTa:K6 (mkE Try.prog VU) (Qr Try.f91) 8 qi (fun x_=>{ hnd (mkE Try.prog VU) 1 with loop:=fun _=>KD 8 [] (ZT x_.1 x_.2.1 x_.2.2.1 x_.2.2.2.1 [] (0:Nat)) [(True,.exit 0,qj (Kb (Kl x_.1 x_.2.1 x_.2.2.1 x_.2.2.2.1) x_.2.2.2.1.n))] }):=by
 refine⟨?_⟩;rintro⟨p,⟨s,⟨least,⟨l,⟨⟩⟩⟩⟩⟩ hp G h1 h2;exact QM9 p s least l (by simpa[qi,QCq,and_assoc]using hp) G h1 h2
theorem QPN:K5 (mkE Try.prog VU) Try.f91 8 qi (fun x_=>{ hnd (mkE Try.prog VU) 1 with loop:=fun _=>KD 8 [] (ZT x_.1 x_.2.1 x_.2.2.1 x_.2.2.2.1 [] (0:Nat)) [(True,.exit 0,qj (Kb (Kl x_.1 x_.2.1 x_.2.2.1 x_.2.2.2.1) x_.2.2.2.1.n))] }):=by
 refine⟨?_⟩;rintro⟨p,⟨s,⟨least,⟨l,⟨⟩⟩⟩⟩⟩ hp;refine⟨⟨rfl,by simp[qi,KQ,Blk.own,Blk.all],rfl⟩,⟨?_⟩⟩
 rw[QPo p s least l];simp only[qi]at hp
 repeat' first|refine QU (by with_reducible rfl) ?_|refine QU (qlr _) ?_|refine QU (qRr) ?_
 refine KB fun _=>KE fun g=>⟨rfl,rfl,_,QN8 _,?_⟩
 repeat' first|exact trivial|with_reducible rfl|exact qlr _|exact qRr|refine And.intro ?_ ?_
theorem QPV:QQ Try.prog 91 QJD:=
 JK (QT jw) Try.func91 (by kernel_rfl) (by kernel_rfl) (by decide) QTa QPN
def Y9:Tab:=Qh VU 91 QJD
theorem QDg:QW Y9:=jw.add QPV
def VV:Bool:=p.ok&&(s.ok&&Xf (fun i=>(l.get i).ok) l.n)
def Xt:Int:=match VV p s l with
 | true=>(match decide (l.n>40)with|true=>3|false=>0)
 | false=>1
def Ja(l:Rw Edge):List Int:=match VV p s l&&decide (l.n≤40)with
 | true=>Kb (Kl p s least l) l.n
 | false=>[]
theorem QU3(e f:Int)(o q:List Int):QM 8 [.tup [.nils,.nils,vj e]] [] (Kr 8 (.tup [.slz 0 0 o.length cO,.slz 1 0 q.length cO,vi f]) [KQ 3 0 o 0,KQ 3 1 q 0])=(
  some [o.length=(0:Nat),q.length=(0:Nat),e=f,o.length=(0:Nat),q.length=(0:Nat)]):=by kernel_rfl
theorem QUi(n m:Nat)(g h:Nat→Nat→Int)(e f:Int)(o q:List Int):QM 8 [.tup [.slz 216 0 n cO,.slz 248 0 m cO,vj e]] [(216,.rowz true 3 [.int .i64] n g),(248,.rowz true 3 [.int .i64] m h)] (Kr 8 (.tup [.slz 0 0 o.length cO,.slz 1 0 q.length cO,vi f]) [KQ 3 0 o 0,KQ 3 1 q 0])=(
  some [(0:Nat)=(0:Nat),n=o.length,Cap.of (0:Nat)=Cap.of (0:Nat),(0:Nat)=(0:Nat),m=q.length,Cap.of (0:Nat)=Cap.of (0:Nat),e=f,o.length≤n,QE
  (1:Nat) o.length g fun i=>QA.enc (o.getD i (0:Int)),q.length≤m,QE (1:Nat) q.length h fun i=>QA.enc (q.getD i (0:Int))]):=by kernel_rfl
def Wa:WF (Qg×Edge×(Rw Edge)×Unit):=fun|(p,(s,(l,_)))=>(decide (l.n≤1000),.tup [.slz 0 0 (Ja p s 2 l).length (.of 0),.slz 1 0 (Ja p s 1 l).length (.of 0),.int false .i64 (Xt p s l)],[KQ 3 0 (Ja p s 2 l) 0,KQ 3 1 (Ja p s 1 l) 0])
def QEw:FC:=wFC Wa
theorem QNJ(l:(Rw Edge)):Ka (mkE Try.prog Y9) (hnd (mkE Try.prog Y9) 0) Try.f72 (QY.vals 0 ((p,s,l,()):Qg×Edge×(Rw Edge)×Unit)) (QY.blks 0 ((p,s,l,()):Qg×Edge ×
  (Rw Edge)×Unit)) 8 = .need (true) (.br (!p.ok) (.leaf (.tup [.nils,.nils,vj 1]) ([])) (.need (true) (.br (!s.ok) (.leaf (.tup [.nils,.nils,vj 1]) ([]))
  (.need (decide (l.n≤l.n)&&true&&decide (l.n≤1000)) (.br (!Xf (fun i=>(l.get i).ok) l.n) (.leaf (.tup [.nils,.nils,vj 1]) ([])) (.br (decide ((l.n:Int) >
  40)) (.leaf (.tup [.nils,.nils,vj 3]) ([])) (.need (true&&(true&&(true&&(decide (l.n≤l.n)&&true)))&&(p.ok&&s.ok&&Xf (fun i=>(l.get i).ok) l.n &&
  decide (l.n≤1000))) (.need (true&&(true&&(true&&(decide (l.n≤l.n)&&true)))&&(p.ok&&s.ok&&Xf (fun i=>(l.get i).ok) l.n&&decide (l.n≤1000))) (.leaf (.tup
  [.slz 216 0 (Kb (Kl p s (2:Int) l) l.n).length cO,.slz 248 0 (Kb (Kl p s (1:Int) l) l.n).length cO,vj 0]) ([(216,.rowz true 3 [.int
  .i64] (Kb (Kl p s (2:Int) l) l.n).length fun i=>QA.enc ((Kb (Kl p s (2:Int) l) l.n).getD i 0)),(248,.rowz true 3 [.int .i64] (Kb (Kl p s (1:Int) l)
  l.n).length fun i=>QA.enc ((Kb (Kl p s (1:Int) l) l.n).getD i 0))])))))))))):=by kernel_rfl
theorem QNv:K6 (mkE Try.prog Y9) (Qr Try.f72) 8 Wa (fun x_=>(hnd (mkE Try.prog Y9) 0)):=by
 refine⟨?_⟩;rintro⟨p,⟨s,⟨l,⟨⟩⟩⟩⟩ hp G h1 h2;exact Q0 (QT QDg) 0 G _ h1
theorem QNb:K5 (mkE Try.prog Y9) Try.f72 8 Wa (fun x_=>(hnd (mkE Try.prog Y9) 0)):=by
 refine⟨?_⟩;rintro⟨p,⟨s,⟨l,⟨⟩⟩⟩⟩ hp;refine⟨⟨rfl,by simp[Wa,KQ,Blk.own,Blk.all],rfl⟩,⟨?_⟩⟩
 rw[QNJ p s l];simp only[Wa]at hp;have hn:l.n≤1000:=qdt hp
 have no:∀ e:Int,Ja p s 2 l=[]→Ja p s 1 l=[]→Xt p s l=e→(QD.leaf (AV.tup [AV.nils,AV.nils,AV.int true i64 e]) []).den (XS 8 (Wa (p,s,l,())).2.1 (Wa (p,s,l,())).2.2):=by
  intro e h1 h2 h3;refine⟨rfl,rfl,_,QU3 _ _ _ _,?_⟩;rw[h1,h2,h3];exact⟨rfl,rfl,rfl,rfl,rfl,trivial⟩
 refine QG rfl (QI (fun h => ?_) (fun h=>QG rfl (QI (fun h2 => ?_) (fun h2=>QG (by simpa using hn) (QI (fun h3 => ?_) (fun h3=>QI (fun h4 => ?_) (fun h4 => ?_)))))))
 ·have e:VV p s l=false:=by simp[VV]at h ⊢;simp[h]
  exact no 1 (by simp[Ja,e]) (by simp[Ja,e]) (by simp[Xt,e])
 ·have e:VV p s l=false:=by simp[VV]at h2 ⊢;simp[h2]
  exact no 1 (by simp[Ja,e]) (by simp[Ja,e]) (by simp[Xt,e])
 ·have e:VV p s l=false:=by simp[VV]at h3 ⊢;simp[h3]
  exact no 1 (by simp[Ja,e]) (by simp[Ja,e]) (by simp[Xt,e])
 ·have h4:l.n>40:=by have:=qdt h4;omega
  have e1:decide (l.n>40)=true:=decide_eq_true h4;have e2:decide (l.n≤40)=false:=decide_eq_false (by omega)
  have e:VV p s l=true:=by simp[VV]at h h2 h3 ⊢;exact⟨h,h2,h3⟩
  exact no 3 (by simp only[Ja,e,e2];rfl) (by simp only[Ja,e,e2];rfl) (by simp only[Xt,e,e1])
 ·have h4:¬ l.n>40:=by have:=of_decide_eq_false h4;omega
  have e1:decide (l.n>40)=false:=decide_eq_false h4;have e2:decide (l.n≤40)=true:=decide_eq_true (by omega)
  have e:VV p s l=true:=by simp[VV]at h h2 h3 ⊢;exact⟨h,h2,h3⟩
  have hq:(p.ok&&s.ok&&Xf (fun i=>(l.get i).ok) l.n&&decide (l.n≤1000))=true:=by simp at h h2 h3;simp[h,h2,h3,hn]
  refine QG (by simp only[hq];simp) (QG (by simp only[hq];simp) ⟨rfl,rfl,_,QUi _ _ _ _ _ _ _ _,?_⟩)
  have k2:Ja p s 2 l=Kb (Kl p s 2 l) l.n:=by simp only[Ja,e,e2];rfl
  have k1:Ja p s 1 l=Kb (Kl p s 1 l) l.n:=by simp only[Ja,e,e2];rfl
  have k3:Xt p s l=0:=by simp only[Xt,e,e1]
  rw[k1,k2,k3]
  repeat' first|exact trivial|with_reducible rfl|exact qlr _|exact qRr|refine And.intro ?_ ?_
theorem QVu:QQ Try.prog 72 QEw:=
 JK (QT QDg) Try.func72 (by kernel_rfl) (by kernel_rfl) (by decide) QNv QNb
def Gr:Tab:=Qh Y9 72 QEw
theorem QHk:QW Gr:=QDg.add QVu
def com(x y:Sp):Bool:=decide (x.lo≤y.hi)&&decide (y.lo≤x.hi)
def isF(b s:Edge):Bool:=(b.kind==s.kind)&&(com b.at_ s.at_&&(com b.wide s.wide&&com b.deep s.deep))
def QKx:Edge×Edge×Unit→Bool×AV:=fun|(b,(s,_))=>(true,.bool false (isF b s))
def QMg:FC:=Q3 (Q2 QKx)
theorem QWN(b:Edge)(s:Edge):Qx (mkE Try.prog Gr) (hnd (mkE Try.prog Gr) 3) false Try.f125 (Qm.enc ((b,s,()):Edge×Edge×Unit)) [] 0 =
  QD.br (b.kind==s.kind) (QD.br (decide (b.at_.lo≤s.at_.hi)) (QD.br (decide (s.at_.lo≤b.at_.hi)) (QD.br (decide (b.wide.lo≤s.wide.hi)) (QD.br (decide (s.wide.lo ≤
  b.wide.hi)) (QD.br (decide (b.deep.lo≤s.deep.hi)) (QD.leaf (AV.bool false (decide (s.deep.lo≤b.deep.hi))) ([])) (QD.leaf (AV.bool true false) ([]))) (QD.leaf (AV.bool
  true false) ([]))) (QD.leaf (AV.bool true false) ([]))) (QD.leaf (AV.bool true false) ([]))) (QD.leaf (AV.bool true false) ([]))) (QD.leaf (AV.bool true false) ([])):=by kernel_rfl
theorem QVg:QQ Try.prog 125 QMg:=by
 refine KA QHk 3 Try.func125 (by kernel_rfl) (by kernel_rfl) ?_
 rintro⟨b,s,⟨⟩⟩ hp;rw[QWN b s];simp only[QKx,QD.den,AV.same,AV.sameL,and_true,true_and]at hp ⊢;simp only[isF,com];generalize (b.kind==s.kind)=x1;generalize decide (b.at_.lo≤s.at_.hi)=x2
 generalize decide (s.at_.lo≤b.at_.hi)=x3
 generalize decide (b.wide.lo≤s.wide.hi)=x4;generalize decide (s.wide.lo≤b.wide.hi)=x5;generalize decide (b.deep.lo≤s.deep.hi)=x6;generalize decide (s.deep.lo≤b.deep.hi)=x7;cases x1<;>cases x2<;>cases x3<;>cases x4<;>cases x5<;>cases x6<;>cases x7<;>simp
def VZ:Tab:=Qh Gr 125 QMg
theorem vP:QW VZ:=QHk.add QVg
structure QK where
 up:Edge
 right:Edge
 down:Edge
 left:Edge
def QK.ok(p:QK):Bool:=p.up.ok&&(p.right.ok&&(p.down.ok&&p.left.ok))
instance : QA QK where
  ks := [.int .i64,.int .i64,.int .i64,.int .i64,.int .i64,.int .i64,.int .i64,.int .i64,.int .i64,.int .i64,.int .i64,.int .i64,.int .i64,.int .i64,.int .i64,.int .i64,.int .i64,.int .i64,.int .i64,.int .i64,.int .i64,.int .i64,.int .i64,.int .i64,.int .i64,.int .i64,.int .i64,.int .i64]
  enc p j := match j with
    | 0 => p.up.kind
    | 1 => p.up.at_.lo
    | 2 => p.up.at_.hi
    | 3 => p.up.wide.lo
    | 4 => p.up.wide.hi
    | 5 => p.up.deep.lo
    | 6 => p.up.deep.hi
    | 7 => p.right.kind
    | 8 => p.right.at_.lo
    | 9 => p.right.at_.hi
    | 10 => p.right.wide.lo
    | 11 => p.right.wide.hi
    | 12 => p.right.deep.lo
    | 13 => p.right.deep.hi
    | 14 => p.down.kind
    | 15 => p.down.at_.lo
    | 16 => p.down.at_.hi
    | 17 => p.down.wide.lo
    | 18 => p.down.wide.hi
    | 19 => p.down.deep.lo
    | 20 => p.down.deep.hi
    | 21 => p.left.kind
    | 22 => p.left.at_.lo
    | 23 => p.left.at_.hi
    | 24 => p.left.wide.lo
    | 25 => p.left.wide.hi
    | 26 => p.left.deep.lo
    | _ => p.left.deep.hi
  dec f := ⟨⟨f 0,⟨f 1,f 2⟩,⟨f 3,f 4⟩,⟨f 5,f 6⟩⟩,⟨f 7,⟨f 8,f 9⟩,⟨f 10,f 11⟩,⟨f 12,f 13⟩⟩,⟨f 14,⟨f 15,f 16⟩,⟨f 17,f 18⟩,⟨f 19,f 20⟩⟩,⟨f 21,⟨f 22,f 23⟩,⟨f 24,f 25⟩,⟨f 26,f 27⟩⟩⟩
  ok _ := rfl
instance : Enc QK where
  enc p := .agg [.int false .i64 p.up.kind,.int false .i64 p.up.at_.lo,.int false .i64 p.up.at_.hi,.int false .i64 p.up.wide.lo,.int false .i64 p.up.wide.hi,.int false .i64 p.up.deep.lo,.int false .i64 p.up.deep.hi,.int false .i64 p.right.kind,.int false .i64 p.right.at_.lo,.int false .i64 p.right.at_.hi,.int false .i64 p.right.wide.lo,.int false .i64 p.right.wide.hi,.int false .i64 p.right.deep.lo,.int false .i64 p.right.deep.hi,.int false .i64 p.down.kind,.int false .i64 p.down.at_.lo,.int false .i64 p.down.at_.hi,.int false .i64 p.down.wide.lo,.int false .i64 p.down.wide.hi,.int false .i64 p.down.deep.lo,.int false .i64 p.down.deep.hi,.int false .i64 p.left.kind,.int false .i64 p.left.at_.lo,.int false .i64 p.left.at_.hi,.int false .i64 p.left.wide.lo,.int false .i64 p.left.wide.hi,.int false .i64 p.left.deep.lo,.int false .i64 p.left.deep.hi]
  dec
    | .agg [.int _ .i64 a0,.int _ .i64 a1,.int _ .i64 a2,.int _ .i64 a3,.int _ .i64 a4,.int _ .i64 a5,.int _ .i64 a6,.int _ .i64 a7,.int _ .i64 a8,.int _ .i64 a9,.int _ .i64 a10,.int _ .i64 a11,.int _ .i64 a12,.int _ .i64 a13,.int _ .i64 a14,.int _ .i64 a15,.int _ .i64 a16,.int _ .i64 a17,.int _ .i64 a18,.int _ .i64 a19,.int _ .i64 a20,.int _ .i64 a21,.int _ .i64 a22,.int _ .i64 a23,.int _ .i64 a24,.int _ .i64 a25,.int _ .i64 a26,.int _ .i64 a27] => some ⟨⟨a0,⟨a1,a2⟩,⟨a3,a4⟩,⟨a5,a6⟩⟩,⟨a7,⟨a8,a9⟩,⟨a10,a11⟩,⟨a12,a13⟩⟩,⟨a14,⟨a15,a16⟩,⟨a17,a18⟩,⟨a19,a20⟩⟩,⟨a21,⟨a22,a23⟩,⟨a24,a25⟩,⟨a26,a27⟩⟩⟩
    | _ => none
  ok v x h := by
    split at h <;> (try (cases h; done))
    simp only[qsI]at h; subst h;exact⟨fun _ => rfl,rfl⟩
structure Puz where
 play:Qg
 wide:Int
 high:Int
 turn:Bool
 ps:Rw QK
instance : Q4 Puz where
  val k x := .agg [.int false .i64 x.play.length,.int false .i64 x.play.slack,.int false .i64 x.play.loose,.int false .i64 x.play.damp.lo,.int false .i64 x.play.damp.hi,.int false .i64 x.wide,.int false .i64 x.high,.bool false x.turn,Q4.val k x.ps]
  blk k x := Q4.blk k x.ps
  dec v lk := match v with
    | .agg [.int _ .i64 a,.int _ .i64 b,.int _ .i64 c,.int _ .i64 d,.int _ .i64 e,.int _ .i64 f,.int _ .i64 g,.bool _ t,s] => (match (Q4.dec s lk : Option (Bool × Rw QK))with
      | some (p,x) => some (p,⟨⟨a,b,c,⟨d,e⟩⟩,f,g,t,x⟩)
      | none => none)
    | _ => none
  ok v lk p x h hp := by
    split at h <;> (try (cases h; done))
    split at h <;> (try (cases h; done))
    rename_i a b c d e f g t s p' x' hd;simp only[qsI,qpI]at h;obtain⟨rfl,rfl⟩ := h;obtain⟨h1,h2⟩ := Q4.ok _ _ _ _ hd hp;refine⟨fun k => ⟨?_,(h1 k).2⟩,fun r w hb => ?_⟩
    · have := (h1 k).1
      simp only[AV.all,AV.allL,Bool.true_and,Bool.and_true]; exact this
    · obtain⟨l,hl⟩ := h2 r w hb
      refine⟨l,fun k r' hr => ⟨?_,(hl k r' hr).2⟩⟩;have := (hl k r' hr).1;simp only[AV.den,AV.denL]at this ⊢;rw[this]
def QJm:AV→Bool
 | .agg _=>true
 | _=>false
theorem QOq{v:AV}(h:QJm v=true):∃ l,v = .agg l:=by
 cases v<;>first|(cases h;done)|exact⟨_,rfl⟩
structure FnC (α:Type) (g ty:Nat) where
 x:α
instance {α : Type} [Enc α] (g ty : Nat) : Q4 (FnC α g ty) where
  val k _ := .fn (.func g) [.ptr k 0 0]
  blk k x := [(k,.cellsR 0 ty (Enc.enc x.x).cells)]
  dec v lk := match v with
    | .fn (.func g') [.ptr id e j] => (match Nat.beq g' g && (Nat.beq e 0 && Nat.beq j 0)with
      | true => (match lk id with
        | some (.cellsR z ty' l) => (match Nat.beq ty' ty && Nat.beq z 0 with
          | true => (match (Enc.dec (.agg l) : Option α)with
            | some a => (match QJm (Enc.enc a)with | true => some (true,⟨a⟩) | false => none)
            | none => none)
          | false => none)
        | _ => none)
      | false => none)
    | _ => none
  ok v lk p x h _ := by
    split at h <;> (try (cases h; done))
    rename_i g' id e j;split at h <;> (try (cases h; done))
    rename_i hg;split at h <;> (try (cases h; done))
    rename_i z ty' l hlk;split at h <;> (try (cases h; done))
    rename_i hz;split at h <;> (try (cases h; done))
    rename_i a ha;split at h <;> (try (cases h; done))
    rename_i hagg;simp only[qbA]at hg hz;have hg1 := Nat.eq_of_beq_eq_true hg.1;have he := Nat.eq_of_beq_eq_true hg.2.1;have hj := Nat.eq_of_beq_eq_true hg.2.2;have ht := Nat.eq_of_beq_eq_true hz.1;have hz0 := Nat.eq_of_beq_eq_true hz.2;subst hg1 he hj ht hz0;simp only[qsI,qpI]at h;obtain⟨_,rfl⟩ := h;obtain⟨k1,k2⟩ := Enc.ok _ _ ha;obtain⟨l',hl'⟩ := QOq hagg;rw[hl']at k1 k2;have hcl : (Enc.enc a).cells = l' := by rw[hl']; rfl
    have k3 : ∀ r,AV.denL r l' = AV.denL r l := fun r => by
      have := k1 r;simp only[AV.den,Value.agg.injEq]at this;exact Array.toList_inj.2 this |> fun h => by simpa using h
    refine⟨fun k => ⟨by simp[AV.all,AV.allL],fun q hq => ?_⟩,fun r w hb => ⟨r id,fun k r' hr => ⟨?_,fun q hq => ?_⟩⟩⟩
    · simp only[List.mem_singleton]at hq; subst hq
      refine⟨rfl,rfl,?_⟩;show AV.allL _ (Enc.enc a).cells = true;rw[hcl]; exact k2
    · simp only[AV.den,AV.denL,hr]
    · simp only[List.mem_singleton]at hq; subst hq
      obtain⟨b1,b2,b3⟩ := hb _ _ hlk;refine⟨by rw[hr]; exact b1,by rw[hr]; exact b2,?_⟩
      show bk w (r' k).blk = some (.cells (AV.denL r' (Enc.enc a).cells).toArray _ _);rw[hr,hcl,denL_congr (p := fun _ => false) (r := r') (r' := r) (fun _ hf => by cases hf) _ k2,k3 r]
      exact b3
abbrev JY:Type:=FnC Qg 71 25
def Kp:Edge:=⟨0,⟨0,0⟩,⟨0,0⟩,⟨0,0⟩⟩
def Kn(m:JY)(l:Rw QK)(i:Nat):Bool := !(m.x.ok&&(l.get i).ok)
theorem QGe(x:QK)(L:Rw Edge)(hn:L.n=4)(h0:L.get 0=x.up)(h1:L.get 1=x.right)(h2:L.get 2=x.down)(h3:L.get 3=x.left):(Xt p Kp L != 0) = !(p.ok&&x.ok):=by
 have z:Kp.ok=true:=by decide
 have e:VV p Kp L=(p.ok&&x.ok):=by
  simp only[VV,z,Xf,QO,hn,h0,h1,h2,h3,QK.ok,Bool.true_and];cases p.ok<;>cases x.up.ok<;>cases x.right.ok<;>cases x.down.ok<;>cases x.left.ok<;>rfl
 have d:decide (L.n>40)=false:=by rw[hn];rfl
 simp only[Xt,e,d];cases p.ok&&x.ok<;>rfl
def idp(l:Rw QK)(m:JY):List (Nat×Blk):=Q4.blk 0 l++Q4.blk 1 m
def G5(l:Rw QK)(m:JY)(k:Nat):JSt:=⟨19,[(0,.slz 0 0 l.n (.of 0)),(1,Q4.val 1 m),(7,.int false .i64 l.n),(8,.int false .i64 k)],idp l m,8⟩
noncomputable abbrev Zu(l:Rw QK):List AV:=
  [vi (l.get k).up.kind,vi (l.get k).up.at_.lo,vi (l.get k).up.at_.hi,vi (l.get k).up.wide.lo,vi (l.get
  k).up.wide.hi,vi (l.get k).up.deep.lo,vi (l.get k).up.deep.hi]
noncomputable abbrev Z5(l:Rw QK):List AV:=
  [vi (l.get k).right.kind,vi (l.get k).right.at_.lo,vi (l.get k).right.at_.hi,vi (l.get k).right.wide.lo,.int false .i64
  (l.get k).right.wide.hi,vi (l.get k).right.deep.lo,vi (l.get k).right.deep.hi]
noncomputable abbrev Zo(l:Rw QK):List AV:=
  [vi (l.get k).down.kind,vi (l.get k).down.at_.lo,vi (l.get k).down.at_.hi,vi (l.get k).down.wide.lo,vi (l.get
  k).down.wide.hi,vi (l.get k).down.deep.lo,vi (l.get k).down.deep.hi]
noncomputable abbrev Z4(l:Rw QK):List AV:=
  [vi (l.get k).left.kind,vi (l.get k).left.at_.lo,vi (l.get k).left.at_.hi,vi (l.get k).left.wide.lo,vi (l.get
  k).left.wide.hi,vi (l.get k).left.deep.lo,vi (l.get k).left.deep.hi]
theorem QWD(l:Rw QK)(m:JY)(k:Nat)(g:Nat→Value):exec (mkE Try.prog VZ) (hnd (mkE Try.prog VZ) 4) (QV Try.f90 0) (JSt.inst (G5 l m k) g) (KH [] jH) = .br (decide ((k:Int)<(l.n:Int))) (.need (decide ((0 :
  Int)≤(k:Int)∧(k:Int)<(l.n:Int))&&decide (l.n≤l.n)) (.need (decide (k<l.n)) (.need (true&&(true&&(true&&true))&&decide (4≤1000)) (.br (Xt m.x (Edge.mk
  (0:Int) (Sp.mk (0:Int) (0:Int)) (Sp.mk (0:Int) (0:Int)) (Sp.mk (0:Int) (0:Int))) (Rw.mk 4 fun i=>Edge.mk (QS [(Zu k l),(Z5 k l),(Zo k l),(Z4 k l)] 0 i
  0) (Sp.mk (QS [(Zu k l),(Z5 k l),(Zo k l),(Z4 k l)] 0 i 1) (QS [(Zu k l),(Z5 k l),(Zo k l),(Z4 k l)] 0 i 2)) (Sp.mk (QS [(Zu k l),(Z5 k l),(Zo k
  l),(Z4 k l)] 0 i 3) (QS [(Zu k l),(Z5 k l),(Zo k l),(Z4 k l)] 0 i 4)) (Sp.mk (QS [(Zu k l),(Z5 k l),(Zo k l),(Z4 k l)] 0 i 5) (QS [(Zu k l),(Z5 k
  l),(Zo k l),(Z4 k l)] 0 i 6))) != 0) (.leaf (.tup [.nili,.ptr 19 0 0,vi (k:Int)]) ([])) (.leaf (.tup [.nilp,.ptr 19 0 0,.slz 0 0 l.n cO,.fn
  (Fn.func 71) [.ptr 1 0 0],vi (l.n:Int),vi (i64.wrap ((k:Int)+1))]) ([(0,.frz [.int .i64,.int .i64,.int .i64,.int .i64,.int .i64,.int
  .i64,.int .i64,.int .i64,.int .i64,.int .i64,.int .i64,.int .i64,.int .i64,.int .i64,.int .i64,.int .i64,.int .i64,.int .i64,.int .i64,.int .i64,.int .i64,.int .i64,
  .int .i64,.int .i64,.int .i64,.int .i64,.int .i64,.int .i64] l.n fun i=>QA.enc (l.get i)),(1,.cellsR 0 25 [vi m.x.length,vi m.x.slack,.int
  false .i64 m.x.loose,vi m.x.damp.lo,vi m.x.damp.hi])])))))) (.leaf (.tup [.ptr 0 0 0,.ptr 19 0 0]) ([])):=by kernel_rfl
def QEV(l:Rw QK)(m:JY)(k:Nat)(e:Ex)(J:JSt):Prop:=(e = .ret∧(QO (Kn m l) (l.n-k) k).isSome=true∧J=⟨19,[(4,.int false .i64 (KR (QO (Kn m l) (l.n-k) k)))],[],8⟩)∨(e = .exit 0∧QO (Kn m l) (l.n-k) k=none∧J=⟨19,[],[],8⟩)
theorem QSZ(l:Rw QK)(m:JY)(k:Nat)(i:Int):QM 8 [.slz 0 0 l.n cO,Q4.val 1 m,vi l.n,vi i] (idp l m) (G5 l m k)=(
  some [(0:Nat)=(0:Nat),l.n=l.n,Cap.of (0:Nat)=Cap.of (0:Nat),Fn.func (71:Nat)=Fn.func (71:Nat),(0:Nat)=(0:Nat),(0:Nat)=(0:Nat),(↑l.n:Int) =
  (↑l.n:Int),i=(↑k:Int),l.n≤l.n,QE (28:Nat) l.n (fun i=>QA.enc (l.get i)) fun i=>QA.enc (l.get i),m.x.length=m.x.length,m.x.slack=m.x.slack,m.x.loose =
  m.x.loose,m.x.damp.lo=m.x.damp.lo,m.x.damp.hi=m.x.damp.hi]):=by kernel_rfl
theorem QSS(l:Rw QK)(m:JY)(hl:l.n≤1000):Kz (G5 l m) (fun k=>k≤l.n) (fun k=>l.n-k) (QEV l m) 8 jH [] (mkE Try.prog VZ) (fun _=>hnd (mkE Try.prog VZ) 4) (QV Try.f90 0):=by
 refine⟨fun k g hk=>⟨jt (QWD l m k g) ?_⟩⟩;refine QI (fun h => ?_) (fun h => ?_)
 ·have h:k<l.n:=by have:=qdt h;omega
  obtain⟨n,hm⟩:∃ n,l.n-k=n+1:=⟨l.n-k-1,by omega⟩
  have hm':l.n-(k+1)=n:=by omega
  refine QG (by simp;omega) (QG (by simp;omega) (QG rfl (QI (fun hb => ?_) (fun hb => ?_))))
  ·have hf:QO (Kn m l) (l.n-k) k=some k:=by rw[hm,QO];unfold Kn;rw[(QGe m.x (l.get k) _ rfl rfl rfl rfl rfl).symm.trans hb]
   exact⟨_,.inl ⟨rfl,by rw[hf];rfl,rfl⟩,rfl,rfl,_,WE _ _,by rw[hf];exact⟨rfl,trivial⟩⟩
  ·have hf:QO (Kn m l) (l.n-k) k=QO (Kn m l) (l.n-(k+1)) (k+1):=by rw[hm,hm',QO];unfold Kn;rw[(QGe m.x (l.get k) _ rfl rfl rfl rfl rfl).symm.trans hb]
   refine⟨k+1,by omega,by show l.n-(k+1)<l.n-k;omega,fun e J h=>by unfold QEV at h ⊢;rw[hf];exact h,rfl,rfl,_,QSZ _ _ _ _,?_⟩
   repeat' first|exact trivial|with_reducible rfl|exact qlr _|exact qRr|exact(w64 (by omega) (by omega)).trans (by omega)|refine And.intro ?_ ?_
 ·have h:l.n≤k:=by have:=of_decide_eq_false h;omega
  have hf:QO (Kn m l) (l.n-k) k=none:=by rw[show l.n-k=0 by omega];rfl
  exact⟨_,.inr ⟨rfl,hf,rfl⟩,rfl,rfl,_,QBI,trivial⟩
def QOc(l:Rw QK)(m:JY):List (Prop×Ex×JSt):=[((QO (Kn m l) l.n 0).isSome=true,.ret,⟨19,[(4,.int false .i64 (KR (QO (Kn m l) l.n 0)))],[],8⟩),(QO (Kn m l) l.n 0=none,.exit 0,⟨19,[],[],8⟩)]
abbrev Gn(l:Rw QK)(m:JY):Code→St→(Ex→St→QD)→QD:=fun _=>KD 8 [] (G5 l m 0) (QOc l m)
theorem QS2(l:Rw QK)(m:JY)(hl:l.n≤1000)(G:Ctx)(hrd:G.rd=none)(hG:G.n=8):Q9 (mkE Try.prog VZ) G { hnd (mkE Try.prog VZ) 1 with loop:=Gn l m } (Qr Try.f90):=by
 refine JM (body:=QV Try.f90 0) (QT vP) hrd (by kernel_rfl) ?_
 refine JE (n0:=8) (QT vP) (by omega) (fun s hs=>Q0 (QT vP) 4 G _ hrd) (fun s hs=>qlr _) ?_ (QSS l m hl) (s0:=0) (Nat.zero_le _) ?_
 ·rintro s e J (⟨_,_,rfl⟩|⟨_,_,rfl⟩)<;>exact qlr _
 ·rintro e J (⟨rfl,h,rfl⟩|⟨rfl,h,rfl⟩)
  ·exact⟨_,List.mem_cons_self,h,rfl,rfl⟩
  ·exact⟨_,List.mem_cons_of_mem _ List.mem_cons_self,h,rfl,rfl⟩
def jv:WF ((Rw QK)×JY×Unit):=fun|(l,(m,_))=>(decide (l.n≤1000),.int false .i64 (KR (QO (Kn m l) l.n 0)),[])
def QJN:FC:=wFC jv
theorem QPs(l:(Rw QK))(m:JY):Ka (mkE Try.prog VZ) { hnd (mkE Try.prog VZ) 1 with loop:=Gn l m } Try.f90 (QY.vals 0 ((l,m,()):(Rw QK)×JY×Unit)) (QY.blks 0 ((l,m,()):(Rw QK)×JY×Unit)) 8 =
  QD.ask ((0:Nat)=(0:Nat)) (QD.ask (l.n=l.n) (QD.ask (Cap.of (0:Nat)=Cap.of (0:Nat)) (QD.ask (Fn.func (71:Nat)=Fn.func (71:Nat)) (QD.ask ((0:Nat)=(0
  : Nat)) (QD.ask ((0:Nat)=(0:Nat)) (QD.ask ((↑l.n:Int)=(↑l.n:Int)) (QD.ask ((0:Int)=(0:Int)) (QD.ask (l.n≤l.n) (QD.ask (QE (28:Nat) l.n (fun i=>
  QA.enc (l.get i)) fun i=>QA.enc (l.get i)) (QD.ask (m.x.length=m.x.length) (QD.ask (m.x.slack=m.x.slack) (QD.ask (m.x.loose=m.x.loose) (QD.ask (m.x.damp.lo =
  m.x.damp.lo) (QD.ask (m.x.damp.hi=m.x.damp.hi) (QD.both (QD.asm ((QO (Kn m l) l.n (0:Nat)).isSome=true) (QD.all (fun(g0:Nat→Value)=>QD.leaf (AV.int
  false i64 (KR (QO (Kn m l) l.n (0:Nat)))) ([])))) (QD.asm (QO (Kn m l) l.n (0:Nat)=none) (QD.all (fun(g1:Nat→Value)=>QD.leaf (AV.int true
  i64 (-1:Int)) ([]))))))))))))))))))):=by kernel_rfl
theorem QRa:K6 (mkE Try.prog VZ) (Qr Try.f90) 8 jv (fun x_=>{ hnd (mkE Try.prog VZ) 1 with loop:=Gn x_.1 x_.2.1 }):=by
 refine⟨?_⟩;rintro⟨l,⟨m,⟨⟩⟩⟩ hp G h1 h2;exact QS2 l m (qdt hp) G h1 h2
theorem QQn:K5 (mkE Try.prog VZ) Try.f90 8 jv (fun x_=>{ hnd (mkE Try.prog VZ) 1 with loop:=Gn x_.1 x_.2.1 }):=by
 refine⟨?_⟩;rintro⟨l,⟨m,⟨⟩⟩⟩ hp;refine⟨⟨rfl,by simp[jv],rfl⟩,⟨?_⟩⟩
 rw[QPs l m];simp only[jv]at hp
 repeat' first|refine QU (by with_reducible rfl) ?_|refine QU (qlr _) ?_|refine QU (qRr) ?_|refine QU (show _=_ from rfl) ?_
 refine X0 (KB fun h=>KE fun g => ?_) (KB fun h=>KE fun g => ?_)
 ·exact Kg ⟨rfl,rfl⟩ rfl
 ·exact Kg ⟨rfl,by show(-1:Int)=KR (QO (Kn m l) l.n 0);rw[h];rfl⟩ rfl
theorem QSu:QQ Try.prog 90 QJN:=
 JK (QT vP) Try.func90 (by kernel_rfl) (by kernel_rfl) (by decide) QRa QQn
def ZZ:Tab:=Qh VZ 90 QJN
theorem QDQ:QW ZZ:=vP.add QSu
def zg:WF ((Rw QK)×JY×Unit):=fun|(l,(m,_))=>(decide (l.n≤1000),.bool false (decide (KR (QO (Kn m l) l.n 0)≥0)),[])
def QJe:FC:=wFC zg
theorem QQc(l:(Rw QK))(m:JY):Ka (mkE Try.prog ZZ) (hnd (mkE Try.prog ZZ) 0) Try.f70 (QY.vals 0 ((l,m,()):(Rw QK)×JY×Unit)) (QY.blks 0 ((l,m,()):(Rw QK)×JY×Unit)) 8 =
  QD.need (decide (l.n≤l.n)&&(true&&true)&&decide (l.n≤(1000:Nat))) (QD.leaf (AV.bool false (decide (KR (QO (Kn m l) l.n (0:Nat))≥(0:Int)))) ([])):=by kernel_rfl
theorem QUo:K6 (mkE Try.prog ZZ) (Qr Try.f70) 8 zg (fun x_=>(hnd (mkE Try.prog ZZ) 0)):=by
 refine⟨?_⟩;rintro⟨l,⟨m,⟨⟩⟩⟩ hp G h1 h2;exact Q0 (QT QDQ) 0 G _ h1
theorem QP4:K5 (mkE Try.prog ZZ) Try.f70 8 zg (fun x_=>(hnd (mkE Try.prog ZZ) 0)):=by
 refine⟨?_⟩;rintro⟨l,⟨m,⟨⟩⟩⟩ hp;refine⟨⟨rfl,by simp[zg],rfl⟩,⟨?_⟩⟩
 rw[QQc l m];simp only[zg]at hp;exact QG (by simpa using hp) (Kg rfl rfl)
theorem QVV:QQ Try.prog 70 QJe:=
 JK (QT QDQ) Try.func70 (by kernel_rfl) (by kernel_rfl) (by decide) QUo QP4
def Gd:Tab:=Qh ZZ 70 QJe
theorem QEY:QW Gd:=QDQ.add QVV
def J3(l:Rw QK):Bool:=(QO (Kn ⟨p⟩ l) l.n 0).isNone
def QK5:Int×Int×Int×Unit→Bool×AV:=fun|(n,(a,(b,_)))=>(true,.bool false (Qa n a b))
def QM3:FC:=Q3 (Q2 QK5)
theorem QWk(n:Int)(a:Int)(b:Int):Qx (mkE Try.prog Gd) (hnd (mkE Try.prog Gd) 2) false Try.f66 (Qm.enc ((n,a,b,()):Int×Int×Int×Unit)) [] 0 =
  QD.br (decide (a≤n)) (QD.leaf (AV.bool false (decide (n≤b))) ([])) (QD.leaf (AV.bool true false) ([])):=by kernel_rfl
theorem QR9:QQ Try.prog 66 QM3:=by
 refine KA QEY 2 Try.func66 (by kernel_rfl) (by kernel_rfl) ?_
 rintro⟨n,a,b,⟨⟩⟩ hp;rw[QWk n a b];simp only[QK5,QD.den,AV.same,AV.sameL,and_true,true_and]at hp ⊢
 (repeat' (first|(refine And.intro ?_ ?_)|(intro _)))<;>simp_all [Qa]<;>omega
def Zb:Tab:=Qh Gd 66 QM3
theorem QBA:QW Zb:=QEY.add QR9
def ja:WF (Qg×(Rw QK)×Unit):=fun|(p,(l,_))=>(decide (l.n≤1000),.bool false (J3 p l),[])
def QL1:FC:=wFC ja
theorem QRX(l:(Rw QK)):Ka (mkE Try.prog Zb) (hnd (mkE Try.prog Zb) 0) Try.f42 (QY.vals 0 ((p,l,()):Qg×(Rw QK)×Unit)) (QY.blks 0 ((p,l,()):Qg×(Rw QK)×Unit)) 8 =
  QD.need (decide (l.n≤l.n)&&(true&&true)&&decide (l.n≤(1000:Nat))) (QD.leaf (AV.bool false !decide (KR (QO (Kn (FnC.mk p) l) l.n (0:Nat))≥(0:Int)))
  ([])):=by kernel_rfl
theorem QUz:K6 (mkE Try.prog Zb) (Qr Try.f42) 8 ja (fun x_=>(hnd (mkE Try.prog Zb) 0)):=by
 refine⟨?_⟩;rintro⟨p,⟨l,⟨⟩⟩⟩ hp G h1 h2;exact Q0 (QT QBA) 0 G _ h1
theorem QQm:K5 (mkE Try.prog Zb) Try.f42 8 ja (fun x_=>(hnd (mkE Try.prog Zb) 0)):=by
 refine⟨?_⟩;rintro⟨p,⟨l,⟨⟩⟩⟩ hp;refine⟨⟨rfl,by simp[ja],rfl⟩,⟨?_⟩⟩
 rw[QRX p l];simp only[ja]at hp;exact QG (by simpa using hp) (Kg (QA1 _) rfl)
theorem QT5:QQ Try.prog 42 QL1:=
 JK (QT QBA) Try.func42 (by kernel_rfl) (by kernel_rfl) (by decide) QUz QQm
def ZX:Tab:=Qh Zb 42 QL1
theorem QBh:QW ZX:=QBA.add QT5
def Puz.okN(d:Puz):Bool:=Qa (d.ps.n:Int) 1 9&&(Qa d.wide 1 d.ps.n&&(Qa d.high 1 d.ps.n&&i64.wrap (d.wide*d.high)==(d.ps.n:Int)))
def Puz.ok(d:Puz):Bool:=d.okN&&J3 d.play d.ps
def WH:WF (Puz×Unit):=fun|(d,_)=>(decide (d.ps.n≤1000),.bool false d.ok,[])
def QKC:FC:=wFC WH
theorem QRI(d:Puz):Ka (mkE Try.prog ZX) (hnd (mkE Try.prog ZX) 0) Try.f37 (QY.vals 0 ((d,()):Puz×Unit)) (QY.blks 0 ((d,()):Puz×Unit)) 8 =
  QD.need (true) (QD.br (Qa (↑d.ps.n:Int) (1:Int) (9:Int)) (QD.need (true) (QD.br (Qa d.wide (1:Int) (↑d.ps.n:Int)) (QD.need (true) (QD.br (Qa d.high
  (1:Int) (↑d.ps.n:Int)) (QD.br (i64.wrap (d.wide*d.high)==(↑d.ps.n:Int)) (QD.need (true&&(decide (d.ps.n≤d.ps.n)&&true)&&decide (d.ps.n≤(1000:Nat)))
  (QD.leaf (AV.bool false (J3 d.play d.ps)) ([]))) (QD.leaf (AV.bool true false) ([]))) (QD.leaf (AV.bool true false) ([])))) (QD.leaf (AV.bool true false) ([]))))
  (QD.leaf (AV.bool true false) ([]))):=by kernel_rfl
theorem QWx:K6 (mkE Try.prog ZX) (Qr Try.f37) 8 WH (fun x_=>(hnd (mkE Try.prog ZX) 0)):=by
 refine⟨?_⟩;rintro⟨d,⟨⟩⟩ hp G h1 h2;exact Q0 (QT QBh) 0 G _ h1
theorem QVO:K5 (mkE Try.prog ZX) Try.f37 8 WH (fun x_=>(hnd (mkE Try.prog ZX) 0)):=by
 refine⟨?_⟩;rintro⟨d,⟨⟩⟩ hp;refine⟨⟨rfl,by simp[WH],rfl⟩,⟨?_⟩⟩
 rw[QRI d];simp only[WH]at hp;have no:d.okN=false→(QD.leaf (AV.bool true false) []).den (XS 8 (WH (d,())).2.1 (WH (d,())).2.2):=fun h=>Kg (show false=d.ok by rw[Puz.ok,h];rfl) rfl
 refine QG rfl (QI (fun h1=>QG rfl (QI (fun h2=>QG rfl (QI (fun h3=>QI (fun h4=>QG (by simpa using hp) (Kg (show J3 d.play d.ps=d.ok by rw[Puz.ok,Puz.okN,h1,h2,h3,h4];rfl) rfl)) (fun h4=>no (by rw[Puz.okN,h1,h2,h3,h4];rfl))) (fun h3=>no (by rw[Puz.okN,h1,h2,h3];rfl)))) (fun h2=>no (by rw[Puz.okN,h1,h2];rfl)))) (fun h1=>no (by rw[Puz.okN,h1];rfl)))
theorem QWP:QQ Try.prog 37 QKC:=
 JK (QT QBh) Try.func37 (by kernel_rfl) (by kernel_rfl) (by decide) QWx QVO
def zj:Tab:=Qh ZX 37 QKC
theorem QJ0:QW zj:=QBh.add QWP
def HW(s:Int):Int:=(s+2).tmod 4
def QGV:Int×Unit→Bool×AV:=fun|(s,_)=>(decide (0≤s∧s≤3),.int false .i64 (HW s))
def QMy:FC:=Q3 (Q2 QGV)
theorem QRN(s:Int):Qx (mkE Try.prog zj) (hnd (mkE Try.prog zj) 2) false Try.f39 (Qm.enc ((s,()):Int×Unit)) [] 0 =
  QD.leaf (AV.int false i64 ((i64.wrap (s+(2:Int))).tmod (4:Int))) ([]):=by kernel_rfl
theorem QOR:QQ Try.prog 39 QMy:=by
 refine KA QJ0 2 Try.func39 (by kernel_rfl) (by kernel_rfl) ?_
 rintro⟨s,⟨⟩⟩ hp;rw[QRN s];simp only[QGV,QD.den,AV.same,AV.sameL,and_true,true_and]at hp ⊢;have hp:=qdt hp;show(i64.wrap (s+2)).tmod 4=HW s;rw[w64 (by omega) (by omega)];rfl
def Ys:Tab:=Qh zj 39 QMy
theorem QA7:QW Ys:=QJ0.add QOR
def QX(wide high cell side:Int):Int:=
 cond (side==0&&decide (0<cell.tdiv wide)) (cell-wide) (cond (side==1&&decide (cell.tmod wide<wide-1)) (cell+1)
  (cond (side==2&&decide (cell.tdiv wide<high-1)) (cell+wide) (cond (side==3&&decide (0<cell.tmod wide)) (cell-1) (-1))))
def Zl:WF (Puz×Int×Int×Unit):=fun|(d,(c,(s,_)))=>(decide ((1≤d.wide∧d.wide≤100)∧(1≤d.high∧d.high≤100)∧(0≤c∧c≤100)),.int false .i64 (QX d.wide d.high c s),[])
def QFt:FC:=wFC Zl
theorem QQI(d:Puz)(c:Int)(s:Int):Ka (mkE Try.prog Ys) (hnd (mkE Try.prog Ys) 0) Try.f38 (QY.vals 0 ((d,c,s,()):Puz×Int×Int×Unit)) (QY.blks 0 ((d,c,s,()):Puz×Int×Int ×
  Unit)) 8 = .need (!decide (d.wide=0)) (.need (!decide (d.wide=0)) (.br (s==0) (.br (decide (i64.wrap (c.tdiv d.wide)>0)) (.leaf (.int false .i64 (i64.wrap (c
  - d.wide))) ([])) (.br (s==1) (.br (decide (c.tmod d.wide<i64.wrap (d.wide-1))) (.leaf (.int false .i64 (i64.wrap (c+1))) ([])) (.br (s==2) (.br (decide
  (i64.wrap (c.tdiv d.wide)<i64.wrap (d.high-1))) (.leaf (.int false .i64 (i64.wrap (c+d.wide))) ([])) (.br (s==3) (.br (decide (c.tmod d.wide>0))
  (.leaf (.int false .i64 (i64.wrap (c-1))) ([])) (.leaf (.int true .i64 (-1)) ([]))) (.leaf (.int true .i64 (-1)) ([])))) (.br (s==3) (.br (decide (c.tmod d.wide>0))
  (.leaf (.int false .i64 (i64.wrap (c-1))) ([])) (.leaf (.int true .i64 (-1)) ([]))) (.leaf (.int true .i64 (-1)) ([]))))) (.br (s==2) (.br (decide (i64.wrap
  (c.tdiv d.wide)<i64.wrap (d.high-1))) (.leaf (.int false .i64 (i64.wrap (c+d.wide))) ([])) (.br (s==3) (.br (decide (c.tmod d.wide>0)) (.leaf (.int false
  .i64 (i64.wrap (c-1))) ([])) (.leaf (.int true .i64 (-1)) ([]))) (.leaf (.int true .i64 (-1)) ([])))) (.br (s==3) (.br (decide (c.tmod d.wide>0)) (.leaf (.int false
  .i64 (i64.wrap (c-1))) ([])) (.leaf (.int true .i64 (-1)) ([]))) (.leaf (.int true .i64 (-1)) ([])))))) (.br (s==1) (.br (decide (c.tmod d.wide<i64.wrap
  (d.wide-1))) (.leaf (.int false .i64 (i64.wrap (c+1))) ([])) (.br (s==2) (.br (decide (i64.wrap (c.tdiv d.wide)<i64.wrap (d.high-1))) (.leaf (.int
  false .i64 (i64.wrap (c+d.wide))) ([])) (.br (s==3) (.br (decide (c.tmod d.wide>0)) (.leaf (.int false .i64 (i64.wrap (c-1))) ([])) (.leaf (.int true .i64
  (-1)) ([]))) (.leaf (.int true .i64 (-1)) ([])))) (.br (s==3) (.br (decide (c.tmod d.wide>0)) (.leaf (.int false .i64 (i64.wrap (c-1))) ([])) (.leaf (.int true .i64
  (-1)) ([]))) (.leaf (.int true .i64 (-1)) ([]))))) (.br (s==2) (.br (decide (i64.wrap (c.tdiv d.wide)<i64.wrap (d.high-1))) (.leaf (.int false .i64
  (i64.wrap (c+d.wide))) ([])) (.br (s==3) (.br (decide (c.tmod d.wide>0)) (.leaf (.int false .i64 (i64.wrap (c-1))) ([])) (.leaf (.int true .i64 (-1)) ([])))
  (.leaf (.int true .i64 (-1)) ([])))) (.br (s==3) (.br (decide (c.tmod d.wide>0)) (.leaf (.int false .i64 (i64.wrap (c-1))) ([])) (.leaf (.int true .i64 (-1)) ([])))
  (.leaf (.int true .i64 (-1)) ([]))))))):=by kernel_rfl
theorem QQC:K6 (mkE Try.prog Ys) (Qr Try.f38) 8 Zl (fun x_=>(hnd (mkE Try.prog Ys) 0)):=by
 refine⟨?_⟩;rintro⟨d,⟨c,⟨s,⟨⟩⟩⟩⟩ hp G h1 h2;exact Q0 (QT QA7) 0 G _ h1
theorem QPm:K5 (mkE Try.prog Ys) Try.f38 8 Zl (fun x_=>(hnd (mkE Try.prog Ys) 0)):=by
 refine⟨?_⟩;rintro⟨d,⟨c,⟨s,⟨⟩⟩⟩⟩ hp;refine⟨⟨rfl,by simp[Zl],rfl⟩,⟨?_⟩⟩
 rw[QQI d c s];simp only[Zl]at hp;obtain⟨⟨w1,w2⟩,⟨h1,h2⟩,c1,c2⟩:=qdt hp;have q0:0≤c.tdiv d.wide:=Int.tdiv_nonneg c1 (by omega)
 have q1:c.tdiv d.wide≤c:=by rw[Int.tdiv_eq_ediv_of_nonneg c1];exact Int.ediv_le_self _ c1
 have m0:0≤c.tmod d.wide:=Int.tmod_nonneg _ c1;have m1:c.tmod d.wide<d.wide:=Int.tmod_lt_of_pos _ (by omega)
 have e1:i64.wrap (c.tdiv d.wide)=c.tdiv d.wide:=w64 (by omega) (by omega)
 have e2:i64.wrap (c-d.wide)=c-d.wide:=w64 (by omega) (by omega)
 have e3:i64.wrap (d.wide-1)=d.wide-1:=w64 (by omega) (by omega)
 have e4:i64.wrap (c+1)=c+1:=w64 (by omega) (by omega)
 have e5:i64.wrap (d.high-1)=d.high-1:=w64 (by omega) (by omega)
 have e6:i64.wrap (c+d.wide)=c+d.wide:=w64 (by omega) (by omega)
 have e7:i64.wrap (c-1)=c-1:=w64 (by omega) (by omega)
 have dz:(!decide (d.wide=0))=true:=by simp;omega
 rw[e1,e2,e3,e4,e5,e6,e7];refine QG dz (QG dz ?_);have fin:∀ v:AV,v.same (.int false .i64 (QX d.wide d.high c s))→(QD.leaf v []).den (XS 8 (Zl (d,c,s,())).2.1 (Zl (d,c,s,())).2.2):=fun v h=>Kg h rfl
 repeat' refine QI (fun _ => ?_) (fun _ => ?_)
 all_goals refine fin _ ?_
 all_goals simp only[AV.same,QX,true_and]
 all_goals grind
theorem QXL:QQ Try.prog 38 QFt:=
 JK (QT QA7) Try.func38 (by kernel_rfl) (by kernel_rfl) (by decide) QQC QPm
def Xh:Tab:=Qh Ys 38 QFt
theorem jp:QW Xh:=QA7.add QXL
end Go.Proofs.Ytbpffdkemeoajaa
