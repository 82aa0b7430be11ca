/- - -/
import Derived.Test.YtbpffdkemeoajaaMfo
import Derived.Test.YtbpffdkemeoajaaMfq
open Go.IntKind (i64)
set_option maxRecDepth 100000
namespace Go.Proofs.Ytbpffdkemeoajaa
open Go.SX
def QX(fn:Func)(k:Nat):Code:=match (Km (Qs fn))[k]? with
 | some (.loop b)=>b
 | _ => .skip
instance : QA Edge where
  ks := [.int .i64,.int .i64,.int .i64,.int .i64,.int .i64,.int .i64,.int .i64]
  enc e j := match j with
    | 0 => e.kind
    | 1 => e.at_.lo
    | 2 => e.at_.hi
    | 3 => e.wide.lo
    | 4 => e.wide.hi
    | 5 => e.deep.lo
    | _ => e.deep.hi
  dec f := ⟨f 0,⟨f 1,f 2⟩,⟨f 3,f 4⟩,⟨f 5,f 6⟩⟩
  ok _ := rfl
structure FnK (g:Nat) where
 u:Unit
instance (g : Nat) : Enc (FnK g) where
  enc _ := .fn (.func g) []
  dec v := match v with
    | .fn (.func g') [] => (match Nat.beq g' g with | true => some ⟨()⟩ | false => none)
    | _ => none
  ok v x h := by
    split at h <;> (try (cases h; done))
    split at h <;> (try (cases h; done))
    rename_i hg;have := Nat.eq_of_beq_eq_true hg;subst this;exact⟨fun _ => rfl,rfl⟩
def QM(p:Nat→Bool):Nat→Nat→Option Nat
 | 0,_=>none
 | m+1,k=>match p k with
  | true=>some k
  | false=>QM p m (k+1)
def KY:Option Nat→Int
 | some i=>i
 | none => -1
def YQ(p:Nat→Bool)(n:Nat):Bool:=(QM (fun i => !p i) n 0).isNone
theorem ze{p:Nat→Bool}:∀{m k:Nat},QM p m k=none→∀ i,k≤i→i<k+m→p i=false
 | 0,k,_,i,h1,h2=>by omega
 | m+1,k,h,i,h1,h2=>by
  simp only[QM]at h;split at h
  ·cases h
  ·rename_i hk;rcases Nat.eq_or_lt_of_le h1 with rfl|hlt
   ·exact hk
   ·exact ze h i hlt (by omega)
theorem QU2{p:Nat→Bool}{n:Nat}(h:YQ p n=true){i:Nat}(hi:i<n):p i=true:=by
 unfold YQ at h;rw[Option.isNone_iff_eq_none]at h;have:=ze h i (Nat.zero_le _) (by omega)
 simpa using this
theorem QGg{p:Nat→Bool}:∀{m k:Nat},(∀ i,k≤i→i<k+m→p i=false)→QM p m k=none
 | 0,_,_=>rfl
 | m+1,k,h=>by
  simp only[QM];rw[h k (qlr _) (by omega)]
  exact QGg fun i h1 h2=>h i (by omega) (by omega)
def QIi:Edge×Unit→Bool×AV:=fun|(s,_)=>(true,.bool false (!s.ok))
def QNY:FC:=Q8 (KA QIi)
variable (p:Qq)(s:Edge)(k:Nat)(l:Rw Edge)(least:Int)(o:List Int)
theorem QRM:Q5 (mkE Try.prog Hd) (hnd (mkE Try.prog Hd) 0) false Try.f84 (Qt.enc ((s,()):Edge×Unit)) [] 0 =
  QD.need (true) (QD.leaf (AV.bool false !s.ok) ([])):=by kernel_rfl
theorem QTx:QP Try.prog 84 QNY:=by
 refine KN QNW 0 Try.func84 (by kernel_rfl) (by kernel_rfl) ?_
 rintro⟨s,⟨⟩⟩ hp;rw[QRM s];simp only[QIi,QD.den,AV.same,AV.sameL,and_true,true_and]at hp ⊢
def YR:Tab:=Qg Hd 84 QNY
theorem GI:QZ YR:=QNW.add QTx
def Jr(i:Nat):Bool := !(l.get i).ok
def QA0(k:Nat):JSt:=⟨19,[(0,.slz 0 0 l.n (.of 0)),(1,.fn (.func 84) []),(7,.int false .i64 l.n),(8,.int false .i64 k)],Q7.blk 0 l,8⟩
def vN:Ex→List Nat
 | .normal=>[0,1,7,8]
 | .exit _=>[]
 | .ret=>[4]
theorem QQ1(k:Nat)(g:Nat→Value):exec (mkE Try.prog YR) (hnd (mkE Try.prog YR) 0) (QX Try.f96 0) (JSt.inst (QA0 l k) g) (KT [] vN) =
  QD.br (decide ((↑k:Int)<(↑l.n:Int))) (QD.need (decide ((0:Int)≤(↑k:Int)∧(↑k:Int)<(↑l.n:Int))&&decide (l.n≤l.n)) (QD.need (decide (k<l.n)) (QD.need
  (true) (QD.br (!(l.get k).ok) (QD.leaf (AV.tup [AV.nili,AV.ptr (19:Nat) (0:Nat) (0:Nat),AV.int false i64 (↑k:Int)]) ([])) (QD.leaf (AV.tup [AV.nilp,AV.ptr
  (19:Nat) (0:Nat) (0:Nat),AV.slz (0:Nat) (0:Nat) l.n (Cap.of (0:Nat)),AV.fn (Fn.func (84:Nat)) [],AV.int false i64 (↑l.n:Int),AV.int false i64
  (i64.wrap ((↑k:Int)+(1:Int)))]) ([((0:Nat),Blk.frz [CK.int i64,CK.int i64,CK.int i64,CK.int i64,CK.int i64,CK.int
  i64,CK.int i64] l.n fun i=>QA.enc (l.get i))])))))) (QD.leaf (AV.tup [AV.ptr (0:Nat) (0:Nat) (0:Nat),AV.ptr (19:Nat) (0:Nat) (0:Nat)]) ([])):=by kernel_rfl
def QNy(k:Nat)(e:Ex)(J:JSt):Prop:=(e = .ret∧(QM (Jr l) (l.n-k) k).isSome=true∧J=⟨19,[(4,.int false .i64 (KY (QM (Jr l) (l.n-k) k)))],[],8⟩)∨(e = .exit 0∧QM (Jr l) (l.n-k) k=none∧J=⟨19,[],[],8⟩)
theorem QRz(k:Nat)(i:Int):QL 8 [.slz 0 0 l.n cO,.fn (.func 84) [],vi l.n,vi i] (Q7.blk 0 l) (QA0 l k)=(
  some [(0:Nat)=(0:Nat),l.n=l.n,Cap.of (0:Nat)=Cap.of (0:Nat),Fn.func (84:FuncId)=Fn.func (84:FuncId),(↑l.n:Int)=(↑l.n:Int),i=(↑k:Int),l.n≤l.n,
  QC (7:Nat) l.n (fun i=>QA.enc (l.get i)) fun i=>QA.enc (l.get i)]):=by kernel_rfl
theorem jE(i j:Int):QL 8 [vi i] [] ⟨19,[(4,vi j)],[],8⟩=(
  some [i=j]):=by kernel_rfl
theorem QFT :QL 8 [] [] ⟨19,[],[],8⟩=(
  some []):=by kernel_rfl
theorem QXW(hl:l.n≤1000):JJ (QA0 l) (fun k=>k≤l.n) (fun k=>l.n-k) (QNy l) 8 vN [] (mkE Try.prog YR) (fun _=>hnd (mkE Try.prog YR) 0) (QX Try.f96 0):=by
 refine⟨fun k g hk=>⟨zy (QQ1 l k g) ?_⟩⟩;refine QG (fun h => ?_) (fun h => ?_)
 ·have h:k<l.n:=by have:=qdt h;omega
  obtain⟨m,hm⟩:∃ m,l.n-k=m+1:=⟨l.n-k-1,by omega⟩
  have hm':l.n-(k+1)=m:=by omega
  refine QF (by simp;omega) (QF (by simp;omega) (QF rfl (QG (fun hb => ?_) (fun hb => ?_))))
  ·have hf:QM (Jr l) (l.n-k) k=some k:=by rw[hm,QM];unfold Jr;rw[hb]
   exact⟨_,.inl ⟨rfl,by rw[hf];rfl,rfl⟩,rfl,rfl,_,jE _ _,by rw[hf];exact⟨rfl,trivial⟩⟩
  ·have hf:QM (Jr l) (l.n-k) k=QM (Jr l) (l.n-(k+1)) (k+1):=by rw[hm,hm',QM];unfold Jr;rw[hb]
   refine⟨k+1,by omega,by show l.n-(k+1)<l.n-k;omega,fun e J h=>by unfold QNy at h ⊢;rw[hf];exact h,rfl,rfl,_,QRz _ _ _,?_⟩
   exact⟨rfl,rfl,rfl,rfl,rfl,(w64 (by omega) (by omega)).trans (by omega),qlr _,qRr,trivial⟩
 ·have h:l.n≤k:=by have:=of_decide_eq_false h;omega
  have hf:QM (Jr l) (l.n-k) k=none:=by rw[show l.n-k=0 by omega];rfl
  exact⟨_,.inr ⟨rfl,hf,rfl⟩,rfl,rfl,_,QFT,trivial⟩
def QWI:List (Prop×Ex×JSt):=[((QM (Jr l) l.n 0).isSome=true,.ret,⟨19,[(4,.int false .i64 (KY (QM (Jr l) l.n 0)))],[],8⟩),(QM (Jr l) l.n 0=none,.exit 0,⟨19,[],[],8⟩)]
abbrev QCB(P:Program)(l:Rw Edge):Hnd:={ hnd (mkE P YR) 1 with loop:=fun _=>KD 8 [] (QA0 l 0) (QWI l) }
theorem QWl(hl:l.n≤1000)(G:Ctx)(hrd:G.rd=none)(hG:G.n=8):KC (mkE Try.prog YR) G (QCB Try.prog l) (Qs Try.f96):=by
 refine Jj (body:=QX Try.f96 0) (QT GI) hrd (by kernel_rfl) ?_
 refine JW (n0:=8) (QT GI) (by omega) (fun s hs=>Qy (QT GI) 0 G _ hrd) (fun s hs=>qlr _) ?_ (QXW l hl) (s0:=0) (Nat.zero_le _) ?_
 ·rintro s e J (⟨_,_,rfl⟩|⟨_,_,rfl⟩)<;>exact qlr _
 ·rintro e J (⟨rfl,h,rfl⟩|⟨rfl,h,rfl⟩)
  ·exact⟨_,List.mem_cons_self,h,rfl,rfl⟩
  ·exact⟨_,List.mem_cons_of_mem _ List.mem_cons_self,h,rfl,rfl⟩
theorem QQB(x:FnK 84):KO (mkE Try.prog YR) (QCB Try.prog l) Try.f96 (QV.vals 0 (l,x,())) (QV.blks 0 (l,x,())) 8 =
  QD.ask ((0:Nat)=(0:Nat)) (QD.ask (l.n=l.n) (QD.ask (Cap.of (0:Nat)=Cap.of (0:Nat)) (QD.ask (Fn.func (84:Nat)=Fn.func (84:FuncId)) (QD.ask ((↑l.n:Int)
  = (↑l.n:Int)) (QD.ask ((0:Int)=(0:Int)) (QD.ask (l.n≤l.n) (QD.ask (QC (7:Nat) l.n (fun i=>QA.enc (l.get i)) fun i=>QA.enc (l.get i)) (QD.both
  (QD.asm ((QM (Jr l) l.n (0:Nat)).isSome=true) (QD.all (fun(g0:Nat→Value)=>QD.leaf (AV.int false i64 (KY (QM (Jr l) l.n (0:Nat)))) ([]))))
  (QD.asm (QM (Jr l) l.n (0:Nat)=none) (QD.all (fun(g1:Nat→Value)=>QD.leaf (AV.int true i64 (-1:Int)) ([])))))))))))):=by kernel_rfl
def QAt:WF (Rw Edge×FnK 84×Unit):=fun x=>(decide (x.1.n≤1000),.int false .i64 (KY (QM (Jr x.1) x.1.n 0)),[])
def QOv:FC:=wFC QAt
theorem QWs:JN (mkE Try.prog YR) (Qs Try.f96) 8 QAt (fun x=>QCB Try.prog x.1):=
 ⟨fun x hx G h1 h2=>QWl x.1 (qdt hx) G h1 h2⟩
theorem QRX:JS (mkE Try.prog YR) Try.f96 8 QAt (fun x=>QCB Try.prog x.1):=by
 refine⟨?_⟩;rintro⟨l,x,⟨⟩⟩ hp;refine⟨⟨rfl,by simp[QAt],rfl⟩,⟨?_⟩⟩
 rw[QQB l x];refine Qa rfl (Qa rfl (Qa rfl (Qa rfl (Qa rfl (Qa rfl (Qa (qlr _) (Qa (qRr) (Xf (KJ fun h=>KF fun g => ?_) (KJ fun h=>KF fun g => ?_)))))))))
 ·exact Kp ⟨rfl,rfl⟩ rfl
 ·exact Kp ⟨rfl,by show(-1:Int)=KY (QM (Jr l) l.n 0);rw[h];rfl⟩ rfl
theorem QSM:QP Try.prog 96 QOv:=
 Jc (QT GI) Try.func96 (by kernel_rfl) (by kernel_rfl) (by decide) QWs QRX
def Wi:Tab:=Qg YR 96 QOv
theorem QEX:QZ Wi:=GI.add QSM
def HC:WF ((Rw Edge)×(FnK 84)×Unit):=fun|(l,(x,_))=>(decide (l.n≤1000),.bool false (decide (KY (QM (Jr l) l.n 0)≥0)),[])
def QHL:FC:=wFC HC
theorem QXO(l:(Rw Edge))(x:(FnK 84)):KO (mkE Try.prog Wi) (hnd (mkE Try.prog Wi) 0) Try.f83 (QV.vals 0 ((l,x,()):(Rw Edge)×(FnK 84)×Unit)) (QV.blks 0 ((l,x,()):(Rw Edge)×(FnK 84)×Unit)) 8 =
  QD.need (decide (l.n≤l.n)&&(true&&true)&&decide (l.n≤(1000:Nat))) (QD.leaf (AV.bool false (decide (KY (QM (Jr l) l.n (0:Nat))≥(0:Int)))) ([])):=by kernel_rfl
theorem QUz:JN (mkE Try.prog Wi) (Qs Try.f83) 8 HC (fun x_=>(hnd (mkE Try.prog Wi) 0)):=by
 refine⟨?_⟩;rintro⟨l,⟨x,⟨⟩⟩⟩ hp G h1 h2;exact Qy (QT QEX) 0 G _ h1
theorem QSi:JS (mkE Try.prog Wi) Try.f83 8 HC (fun x_=>(hnd (mkE Try.prog Wi) 0)):=by
 refine⟨?_⟩;rintro⟨l,⟨x,⟨⟩⟩⟩ hp;refine⟨⟨rfl,by simp[HC],rfl⟩,⟨?_⟩⟩
 rw[QXO l x];simp only[HC]at hp;exact QF (by simpa using hp) (Kp rfl rfl)
theorem QVT:QP Try.prog 83 QHL:=
 Jc (QT QEX) Try.func83 (by kernel_rfl) (by kernel_rfl) (by decide) QUz QSi
def Wl:Tab:=Qg Wi 83 QHL
theorem QEB:QZ Wl:=QEX.add QVT
theorem QC5:∀(o:Option Nat),(!decide (KY o≥0))=o.isNone
 | some i=>by simp[KY]
 | none=>rfl
def G7:WF ((Rw Edge)×Unit):=fun|(l,_)=>(decide (l.n≤1000),.bool false (YQ (fun i=>(l.get i).ok) l.n),[])
def QHM:FC:=wFC G7
theorem QW8(l:(Rw Edge)):KO (mkE Try.prog Wl) (hnd (mkE Try.prog Wl) 0) Try.f60 (QV.vals 0 ((l,()):(Rw Edge)×Unit)) (QV.blks 0 ((l,()):(Rw Edge)×Unit)) 8 =
  QD.need (decide (l.n≤l.n)&&(true&&true)&&decide (l.n≤(1000:Nat))) (QD.leaf (AV.bool false !decide (KY (QM (Jr l) l.n (0:Nat))≥(0:Int))) ([])):=by kernel_rfl
theorem QVE:JN (mkE Try.prog Wl) (Qs Try.f60) 8 G7 (fun x_=>(hnd (mkE Try.prog Wl) 0)):=by
 refine⟨?_⟩;rintro⟨l,⟨⟩⟩ hp G h1 h2;exact Qy (QT QEB) 0 G _ h1
theorem QY5:JS (mkE Try.prog Wl) Try.f60 8 G7 (fun x_=>(hnd (mkE Try.prog Wl) 0)):=by
 refine⟨?_⟩;rintro⟨l,⟨⟩⟩ hp;refine⟨⟨rfl,by simp[G7],rfl⟩,⟨?_⟩⟩
 rw[QW8 l];simp only[G7]at hp;exact QF (by simpa using hp) (Kp (QC5 _) rfl)
theorem QUM:QP Try.prog 60 QHM:=
 Jc (QT QEB) Try.func60 (by kernel_rfl) (by kernel_rfl) (by decide) QVE QY5
def Vy:Tab:=Qg Wl 60 QHM
theorem zt:QZ Vy:=QEB.add QUM
def KW{α:Type}[QA α](ty k:Nat)(l:List α)(d:α):Nat×Blk:=(k,.rowz true ty (QA.ks α) l.length fun i=>QA.enc (l.getD i d))
def Ks(q:Nat→Bool):Nat→List Int
 | 0=>[]
 | k+1=>match q k with
  | true=>Ks q k++[(k:Int)]
  | false=>Ks q k
theorem QKG(q:Nat→Bool):∀ k,(Ks q k).length≤k
 | 0=>qlr _
 | k+1=>by
  have:=QKG q k;simp only[Ks];split<;>simp<;>omega
def K4(l:Rw Edge)(i:Nat):Bool:=decide (Zd p s (l.get i)≥least)
def WL(l:Rw Edge)(o:List Int)(k:Int):JSt:=
 ⟨30,[(2,.int false .i64 least),(4,.ptr 8 0 0),(5,.ptr 16 0 0),(8,.slz 24 0 o.length (.of 0)),(11,.slz 3 0 l.n (.of 0)),(12,.int false .i64 l.n),(13,.int false .i64 k)],
  [(8,.cells 0 25 (Enc.enc p).cells),(16,.cells 0 30 (Enc.enc s).cells),KW 3 24 o 0]++Q7.blk 3 l,32⟩
def QG4:Ex→List Nat
 | .normal=>[2,4,5,8,11,12,13]
 | _=>[8]
noncomputable abbrev QKR:Nat×Blk:=
  (8,.cells 0 25 [vi p.length,vi p.slack,vi p.loose,vi p.damp.lo,vi p.damp.hi])
noncomputable abbrev QOu:Nat×Blk:=
  (16,.cells 0 30 [vi s.kind,vi s.at_.lo,vi s.at_.hi,vi s.wide.lo,vi s.wide.hi,vi s.deep.lo,.int
  false .i64 s.deep.hi])
noncomputable abbrev QOa:Nat×Blk:=
  (3,.frz [.int .i64,.int .i64,.int .i64,.int .i64,.int .i64,.int .i64,.int .i64] l.n fun i=>QA.enc (l.get i))
theorem QPu(l:Rw Edge)(o:List Int)(k:Nat)(g:Nat→Value):exec (mkE Try.prog Vy) (hnd (mkE Try.prog Vy) 0) (QX Try.f91 0) (JSt.inst (WL p s least l o k) g) (KT [] QG4) = .br (decide ((k:Int)<(l.n:Int))) (.need
  (decide ((0:Int)≤(k:Int)∧(k:Int)<(l.n:Int))&&decide (l.n≤l.n)) (.need (decide (k<l.n)) (.need (okP p s (l.get k)) (.br (decide (Zd p s (l.get k)≥least))
  (.need (decide (o.length≤o.length)&&(true&&decide ((o.length+1+(o.length+1) / 4+192)*8≤281474976710656∧o.length+1≤9223372036854775807))) (.leaf (.tup [.nilp,
  .ptr 30 0 0,vi least,.ptr 8 0 0,.ptr 16 0 0,.slz 160 0 (o.length+1) cO,.slz 3 0 l.n cO,vi (l.n:Int),.int false .i64
  (i64.wrap ((k:Int)+1))]) ([(QKR p),(QOu s),(160,.rowz true 3 [.int .i64] (o.length+1) (Qi o.length (fun i=>QA.enc (o.getD i 0)) (QU [[vi (k
  : Int)]] 0))),(QOa l)]))) (.leaf (.tup [.nilp,.ptr 30 0 0,vi least,.ptr 8 0 0,.ptr 16 0 0,.slz 24 0 o.length cO,.slz 3 0 l.n cO,.int false .i64
  (l.n:Int),vi (i64.wrap ((k:Int)+1))]) ([(QKR p),(QOu s),(24,.rowz true 3 [.int .i64] o.length fun i=>QA.enc (o.getD i 0)),(QOa l)]))))))
  (.leaf (.tup [.ptr 0 0 0,.ptr 30 0 0,.slz 24 0 o.length cO]) ([(24,.rowz true 3 [.int .i64] o.length fun i=>QA.enc (o.getD i 0))])):=by kernel_rfl
theorem QSS(x:Int):QC 1 (o++[x]).length (Qi o.length (fun i=>QA.enc (o.getD i 0)) (QU [[AV.int false i64 x]] 0)) (fun i=>QA.enc ((o++[x]).getD i 0)):=by
 intro i hi;refine⟨?_,trivial⟩;rw[X8];rw[List.length_append,List.length_singleton]at hi;split
 ·rename_i h;show o.getD i 0=(o++[x]).getD i 0;rw[List.getD_eq_getElem?_getD,List.getD_eq_getElem?_getD,List.getElem?_append_left h]
 ·rename_i h;have:i=o.length:=by omega
  subst this;show x=(o++[x]).getD o.length 0;simp
theorem QWX(l:Rw Edge)(n:Nat)(g:Nat→Nat→Int)(i:Int)(o:List Int)(k:Int):QL 8 [vi least,.ptr 8 0 0,.ptr 16 0 0,.slz 24 0 n cO,.slz 3 0 l.n cO,vi l.n,vi i] ([(8,.cells 0 25 (Enc.enc p).cells),(16,.cells 0 30 (Enc.enc s).cells),(24,.rowz true 3 [.int .i64] n g)]++Q7.blk 3 l) (WL p s least l o k)=(
  some [least=least,(0:Nat)=(0:Nat),(0:Nat)=(0:Nat),(0:Nat)=(0:Nat),(0:Nat)=(0:Nat),(0:Nat)=(0:Nat),n=o.length,Cap.of (0:Nat)=Cap.of (0 :
  Nat),(0:Nat)=(0:Nat),l.n=l.n,Cap.of (0:Nat)=Cap.of (0:Nat),(↑l.n:Int)=(↑l.n:Int),i=k,p.length=p.length,p.slack=p.slack,p.loose=p.loose,p.damp.lo
  = p.damp.lo,p.damp.hi=p.damp.hi,s.kind=s.kind,s.at_.lo=s.at_.lo,s.at_.hi=s.at_.hi,s.wide.lo=s.wide.lo,s.wide.hi=s.wide.hi,s.deep.lo=s.deep.lo,s.deep.hi =
  s.deep.hi,o.length≤n,QC (1:Nat) o.length g fun i=>QA.enc (o.getD i (0:Int)),l.n≤l.n,QC (7:Nat) l.n (fun i=>QA.enc (l.get i)) fun i=>QA.enc (l.get
  i)]):=by kernel_rfl
theorem QTG(l:Rw Edge)(n:Nat)(g:Nat→Nat→Int)(i:Int)(o:List Int)(k:Int):QL 8 [vi least,.ptr 8 0 0,.ptr 16 0 0,.slz 160 0 n cO,.slz 3 0 l.n cO,vi l.n,vi i] ([(8,.cells 0 25 (Enc.enc p).cells),(16,.cells 0 30 (Enc.enc s).cells),(160,.rowz true 3 [.int .i64] n g)]++Q7.blk 3 l) (WL p s least l o k)=(
  some [least=least,(0:Nat)=(0:Nat),(0:Nat)=(0:Nat),(0:Nat)=(0:Nat),(0:Nat)=(0:Nat),(0:Nat)=(0:Nat),n=o.length,Cap.of (0:Nat)=Cap.of (0 :
  Nat),(0:Nat)=(0:Nat),l.n=l.n,Cap.of (0:Nat)=Cap.of (0:Nat),(↑l.n:Int)=(↑l.n:Int),i=k,p.length=p.length,p.slack=p.slack,p.loose=p.loose,p.damp.lo
  = p.damp.lo,p.damp.hi=p.damp.hi,s.kind=s.kind,s.at_.lo=s.at_.lo,s.at_.hi=s.at_.hi,s.wide.lo=s.wide.lo,s.wide.hi=s.wide.hi,s.deep.lo=s.deep.lo,s.deep.hi =
  s.deep.hi,o.length≤n,QC (1:Nat) o.length g fun i=>QA.enc (o.getD i (0:Int)),l.n≤l.n,QC (7:Nat) l.n (fun i=>QA.enc (l.get i)) fun i=>QA.enc (l.get
  i)]):=by kernel_rfl
def vK:JSt:=⟨30,[(8,.slz 24 0 o.length (.of 0))],[KW 3 24 o 0],32⟩
theorem QUa(n:Nat)(g:Nat→Nat→Int)(o:List Int):QL 8 [.slz 24 0 n cO] [(24,.rowz true 3 [.int .i64] n g)] (vK o)=(
  some [(0:Nat)=(0:Nat),n=o.length,Cap.of (0:Nat)=Cap.of (0:Nat),o.length≤n,QC (1:Nat) o.length g fun i=>QA.enc (o.getD i (0:Int))]):=by kernel_rfl
def QFQ:Prop:=p.ok=true∧s.ok=true∧YQ (fun i=>(l.get i).ok) l.n=true∧l.n≤1000
theorem QPP(l:Rw Edge)(hl:QFQ p s l):JJ (fun k:Nat=>WL p s least l (Ks (K4 p s least l) k) k) (fun k=>k≤l.n) (fun k=>l.n-k) (fun _ e J=>e = .exit 0∧J=vK (Ks (K4 p s least l) l.n)) 8 QG4 [] (mkE Try.prog Vy) (fun _=>hnd (mkE Try.prog Vy) 0) (QX Try.f91 0):=by
 obtain⟨h1,h2,h3,h4⟩:=hl;refine⟨fun k g hk=>⟨zy (QPu p s least l _ k g) ?_⟩⟩;have hlen:=QKG (K4 p s least l) k;refine QG (fun h => ?_) (fun h => ?_)
 ·have h:k<l.n:=by have:=qdt h;omega
  have hw:i64.wrap ((k:Int)+1)=((k+1:Nat):Int):=(w64 (by omega) (by omega)).trans (by omega)
  refine QF (by simp;omega) (QF (by simp;omega) (QF (by simp only[okP,h1,h2,QU2 h3 h];rfl) (QG (fun hb => ?_) (fun hb => ?_))))
  ·have e:Ks (K4 p s least l) (k+1)=Ks (K4 p s least l) k++[(k:Int)]:=by simp only[Ks,K4];rw[hb]
   refine QF (by simp;omega) ⟨k+1,h,by show l.n-(k+1)<l.n-k;omega,fun _ _ h=>h,rfl,rfl,_,QTG _ _ _ _ _ _ _ _ _,?_⟩
   rw[e]
   repeat' first|exact trivial|with_reducible rfl|exact qlr _|exact qRr|exact hw|refine And.intro ?_ ?_
   ·simp
   ·simp
   ·exact QSS _ _
  ·have e:Ks (K4 p s least l) (k+1)=Ks (K4 p s least l) k:=by simp only[Ks,K4];rw[hb]
   refine⟨k+1,h,by show l.n-(k+1)<l.n-k;omega,fun _ _ h=>h,rfl,rfl,_,QWX _ _ _ _ _ _ _ _ _,?_⟩
   rw[e]
   repeat' first|exact trivial|with_reducible rfl|exact qlr _|exact qRr|exact hw|refine And.intro ?_ ?_
 ·have:k=l.n:=by have:=of_decide_eq_false h;omega
  subst this;refine⟨_,⟨rfl,rfl⟩,rfl,rfl,_,QUa _ _ _,?_⟩
  repeat' first|exact trivial|with_reducible rfl|exact qlr _|exact qRr|refine And.intro ?_ ?_
theorem QVp(l:Rw Edge)(hl:QFQ p s l)(G:Ctx)(hrd:G.rd=none)(hG:G.n=8):KC (mkE Try.prog Vy) G { hnd (mkE Try.prog Vy) 1 with loop:=fun _=>KD 8 [] (WL p s least l [] (0:Nat)) [(True,.exit 0,vK (Ks (K4 p s least l) l.n))] } (Qs Try.f91):=by
 refine Jj (body:=QX Try.f91 0) (QT zt) hrd (by kernel_rfl) ?_
 refine JW (n0:=8) (QT zt) (by omega) (fun s hs=>Qy (QT zt) 0 G _ hrd) (fun s hs=>(by decide:8≤32)) ?_ (QPP p s least l hl) (s0:=0) (Nat.zero_le _) ?_
 ·rintro s e J ⟨_,rfl⟩;exact(by decide:8≤32)
 ·rintro e J ⟨rfl,rfl⟩;exact⟨_,List.mem_cons_self,trivial,rfl,rfl⟩
theorem QXH:QL 8 [.slz 24 0 o.length cO] [(24,.rowz true 3 [.int .i64] o.length fun i=>QA.enc (o.getD i 0))] (Kg 8 (.slz 0 0 o.length cO) [KW 3 0 o 0])=(
  some [(0:Nat)=(0:Nat),o.length=o.length,Cap.of (0:Nat)=Cap.of (0:Nat),o.length≤o.length,QC (1:Nat) o.length (fun i=>QA.enc (o.getD i (0:Int))) fun i
  => QA.enc (o.getD i (0:Int))]):=by kernel_rfl
def vI:WF (Qq×Edge×Int×(Rw Edge)×Unit):=fun|(p,(s,(least,(l,_))))=>(p.ok&&s.ok&&YQ (fun i=>(l.get i).ok) l.n&&decide (l.n≤1000),.slz 0 0 (Ks (K4 p s least l) l.n).length (.of 0),[KW 3 0 (Ks (K4 p s least l) l.n) 0])
def QJR:FC:=wFC vI
theorem QWD(l:(Rw Edge)):KO (mkE Try.prog Vy) { hnd (mkE Try.prog Vy) 1 with loop:=fun _=>KD 8 [] (WL p s least l [] (0:Nat)) [(True,.exit 0,vK (Ks (K4 p s least l)
  l.n))] } Try.f91 (QV.vals 0 ((p,s,least,l,()):Qq×Edge×Int×(Rw Edge)×Unit)) (QV.blks 0 ((p,s,least,l,()):Qq×Edge×Int×(Rw Edge)×Unit)) 8 = .ask
  (least=least) (.ask (0=0) (.ask (0=0) (.ask (0=0) (.ask (0=0) (.ask (0=0) (.ask (0=0) (.ask (l.n=l.n) (.ask (cO=cO) (.ask ((l.n:Int)=(l.n:Int))
  (.ask ((0:Int)=0) (.ask (p.length=p.length) (.ask (p.slack=p.slack) (.ask (p.loose=p.loose) (.ask (p.damp.lo=p.damp.lo) (.ask (p.damp.hi=p.damp.hi) (.ask (s.kind =
  s.kind) (.ask (s.at_.lo=s.at_.lo) (.ask (s.at_.hi=s.at_.hi) (.ask (s.wide.lo=s.wide.lo) (.ask (s.wide.hi=s.wide.hi) (.ask (s.deep.lo=s.deep.lo) (.ask (s.deep.hi =
  s.deep.hi) (.ask (0=0) (.ask (l.n≤l.n) (.ask (QC 7 l.n (fun i=>QA.enc (l.get i)) fun i=>QA.enc (l.get i)) (.asm (True) (.all (fun(g0:Nat→Value) => .leaf (.slz
  24 0 (Ks (K4 p s least l) l.n).length cO) ([(24,.rowz true 3 [.int .i64] (Ks (K4 p s least l) l.n).length fun i=>QA.enc ((Ks (K4 p s least l)
  l.n).getD i 0))]))))))))))))))))))))))))))))):=by kernel_rfl
theorem QRL:JN (mkE Try.prog Vy) (Qs Try.f91) 8 vI (fun x_=>{ hnd (mkE Try.prog Vy) 1 with loop:=fun _=>KD 8 [] (WL x_.1 x_.2.1 x_.2.2.1 x_.2.2.2.1 [] (0:Nat)) [(True,.exit 0,vK (Ks (K4 x_.1 x_.2.1 x_.2.2.1 x_.2.2.2.1) x_.2.2.2.1.n))] }):=by
 refine⟨?_⟩;rintro⟨p,⟨s,⟨least,⟨l,⟨⟩⟩⟩⟩⟩ hp G h1 h2;exact QVp p s least l (by simpa[vI,QFQ,and_assoc]using hp) G h1 h2
theorem QX4:JS (mkE Try.prog Vy) Try.f91 8 vI (fun x_=>{ hnd (mkE Try.prog Vy) 1 with loop:=fun _=>KD 8 [] (WL x_.1 x_.2.1 x_.2.2.1 x_.2.2.2.1 [] (0:Nat)) [(True,.exit 0,vK (Ks (K4 x_.1 x_.2.1 x_.2.2.1 x_.2.2.2.1) x_.2.2.2.1.n))] }):=by
 refine⟨?_⟩;rintro⟨p,⟨s,⟨least,⟨l,⟨⟩⟩⟩⟩⟩ hp;refine⟨⟨rfl,by simp[vI,KW,Blk.own,Blk.all],rfl⟩,⟨?_⟩⟩
 rw[QWD p s least l];simp only[vI]at hp
 repeat' first|refine Qa (by with_reducible rfl) ?_|refine Qa (qlr _) ?_|refine Qa (qRr) ?_
 refine KJ fun _=>KF fun g=>⟨rfl,rfl,_,QXH _,?_⟩
 repeat' first|exact trivial|with_reducible rfl|exact qlr _|exact qRr|refine And.intro ?_ ?_
theorem QXo:QP Try.prog 91 QJR:=
 Jc (QT zt) Try.func91 (by kernel_rfl) (by kernel_rfl) (by decide) QRL QX4
def Wg:Tab:=Qg Vy 91 QJR
theorem QDZ:QZ Wg:=zt.add QXo
def XB:Bool:=p.ok&&(s.ok&&YQ (fun i=>(l.get i).ok) l.n)
def YK:Int:=match XB p s l with
 | true=>(match decide (l.n>40)with|true=>3|false=>0)
 | false=>1
def VC(l:Rw Edge):List Int:=match XB p s l&&decide (l.n≤40)with
 | true=>Ks (K4 p s least l) l.n
 | false=>[]
theorem QS8(e f:Int)(o q:List Int):QL 8 [.tup [.nils,.nils,vj e]] [] (Kg 8 (.tup [.slz 0 0 o.length cO,.slz 1 0 q.length cO,vi f]) [KW 3 0 o 0,KW 3 1 q 0])=(
  some [o.length=(0:Nat),q.length=(0:Nat),e=f,o.length=(0:Nat),q.length=(0:Nat)]):=by kernel_rfl
theorem QTe(n m:Nat)(g h:Nat→Nat→Int)(e f:Int)(o q:List Int):QL 8 [.tup [.slz 216 0 n cO,.slz 248 0 m cO,vj e]] [(216,.rowz true 3 [.int .i64] n g),(248,.rowz true 3 [.int .i64] m h)] (Kg 8 (.tup [.slz 0 0 o.length cO,.slz 1 0 q.length cO,vi f]) [KW 3 0 o 0,KW 3 1 q 0])=(
  some [(0:Nat)=(0:Nat),n=o.length,Cap.of (0:Nat)=Cap.of (0:Nat),(0:Nat)=(0:Nat),m=q.length,Cap.of (0:Nat)=Cap.of (0:Nat),e=f,o.length≤n,QC
  (1:Nat) o.length g fun i=>QA.enc (o.getD i (0:Int)),q.length≤m,QC (1:Nat) q.length h fun i=>QA.enc (q.getD i (0:Int))]):=by kernel_rfl
def W7:WF (Qq×Edge×(Rw Edge)×Unit):=fun|(p,(s,(l,_)))=>(decide (l.n≤1000),.tup [.slz 0 0 (VC p s 2 l).length (.of 0),.slz 1 0 (VC p s 1 l).length (.of 0),.int false .i64 (YK p s l)],[KW 3 0 (VC p s 2 l) 0,KW 3 1 (VC p s 1 l) 0])
def QJU:FC:=wFC W7
theorem QR2(l:(Rw Edge)):KO (mkE Try.prog Wg) (hnd (mkE Try.prog Wg) 0) Try.f72 (QV.vals 0 ((p,s,l,()):Qq×Edge×(Rw Edge)×Unit)) (QV.blks 0 ((p,s,l,()):Qq×Edge ×
  (Rw Edge)×Unit)) 8 = .need (true) (.br (!p.ok) (.leaf (.tup [.nils,.nils,vj 1]) ([])) (.need (true) (.br (!s.ok) (.leaf (.tup [.nils,.nils,vj 1]) ([]))
  (.need (decide (l.n≤l.n)&&true&&decide (l.n≤1000)) (.br (!YQ (fun i=>(l.get i).ok) l.n) (.leaf (.tup [.nils,.nils,vj 1]) ([])) (.br (decide ((l.n:Int) >
  40)) (.leaf (.tup [.nils,.nils,vj 3]) ([])) (.need (true&&(true&&(true&&(decide (l.n≤l.n)&&true)))&&(p.ok&&s.ok&&YQ (fun i=>(l.get i).ok) l.n &&
  decide (l.n≤1000))) (.need (true&&(true&&(true&&(decide (l.n≤l.n)&&true)))&&(p.ok&&s.ok&&YQ (fun i=>(l.get i).ok) l.n&&decide (l.n≤1000))) (.leaf (.tup
  [.slz 216 0 (Ks (K4 p s (2:Int) l) l.n).length cO,.slz 248 0 (Ks (K4 p s (1:Int) l) l.n).length cO,vj 0]) ([(216,.rowz true 3 [.int
  .i64] (Ks (K4 p s (2:Int) l) l.n).length fun i=>QA.enc ((Ks (K4 p s (2:Int) l) l.n).getD i 0)),(248,.rowz true 3 [.int .i64] (Ks (K4 p s (1:Int) l)
  l.n).length fun i=>QA.enc ((Ks (K4 p s (1:Int) l) l.n).getD i 0))])))))))))):=by kernel_rfl
theorem QSA:JN (mkE Try.prog Wg) (Qs Try.f72) 8 W7 (fun x_=>(hnd (mkE Try.prog Wg) 0)):=by
 refine⟨?_⟩;rintro⟨p,⟨s,⟨l,⟨⟩⟩⟩⟩ hp G h1 h2;exact Qy (QT QDZ) 0 G _ h1
theorem QSz:JS (mkE Try.prog Wg) Try.f72 8 W7 (fun x_=>(hnd (mkE Try.prog Wg) 0)):=by
 refine⟨?_⟩;rintro⟨p,⟨s,⟨l,⟨⟩⟩⟩⟩ hp;refine⟨⟨rfl,by simp[W7,KW,Blk.own,Blk.all],rfl⟩,⟨?_⟩⟩
 rw[QR2 p s l];simp only[W7]at hp;have hn:l.n≤1000:=qdt hp
 have no:∀ e:Int,VC p s 2 l=[]→VC p s 1 l=[]→YK p s l=e→(QD.leaf (AV.tup [AV.nils,AV.nils,AV.int true i64 e]) []).den (Vg 8 (W7 (p,s,l,())).2.1 (W7 (p,s,l,())).2.2):=by
  intro e h1 h2 h3;refine⟨rfl,rfl,_,QS8 _ _ _ _,?_⟩;rw[h1,h2,h3];exact⟨rfl,rfl,rfl,rfl,rfl,trivial⟩
 refine QF rfl (QG (fun h => ?_) (fun h=>QF rfl (QG (fun h2 => ?_) (fun h2=>QF (by simpa using hn) (QG (fun h3 => ?_) (fun h3=>QG (fun h4 => ?_) (fun h4 => ?_)))))))
 ·have e:XB p s l=false:=by simp[XB]at h ⊢;simp[h]
  exact no 1 (by simp[VC,e]) (by simp[VC,e]) (by simp[YK,e])
 ·have e:XB p s l=false:=by simp[XB]at h2 ⊢;simp[h2]
  exact no 1 (by simp[VC,e]) (by simp[VC,e]) (by simp[YK,e])
 ·have e:XB p s l=false:=by simp[XB]at h3 ⊢;simp[h3]
  exact no 1 (by simp[VC,e]) (by simp[VC,e]) (by simp[YK,e])
 ·have h4:l.n>40:=by have:=qdt h4;omega
  have e1:decide (l.n>40)=true:=decide_eq_true h4;have e2:decide (l.n≤40)=false:=decide_eq_false (by omega)
  have e:XB p s l=true:=by simp[XB]at h h2 h3 ⊢;exact⟨h,h2,h3⟩
  exact no 3 (by simp only[VC,e,e2];rfl) (by simp only[VC,e,e2];rfl) (by simp only[YK,e,e1])
 ·have h4:¬ l.n>40:=by have:=of_decide_eq_false h4;omega
  have e1:decide (l.n>40)=false:=decide_eq_false h4;have e2:decide (l.n≤40)=true:=decide_eq_true (by omega)
  have e:XB p s l=true:=by simp[XB]at h h2 h3 ⊢;exact⟨h,h2,h3⟩
  have hq:(p.ok&&s.ok&&YQ (fun i=>(l.get i).ok) l.n&&decide (l.n≤1000))=true:=by simp at h h2 h3;simp[h,h2,h3,hn]
  refine QF (by simp only[hq];simp) (QF (by simp only[hq];simp) ⟨rfl,rfl,_,QTe _ _ _ _ _ _ _ _,?_⟩)
  have k2:VC p s 2 l=Ks (K4 p s 2 l) l.n:=by simp only[VC,e,e2];rfl
  have k1:VC p s 1 l=Ks (K4 p s 1 l) l.n:=by simp only[VC,e,e2];rfl
  have k3:YK p s l=0:=by simp only[YK,e,e1]
  rw[k1,k2,k3]
  repeat' first|exact trivial|with_reducible rfl|exact qlr _|exact qRr|refine And.intro ?_ ?_
theorem QS6:QP Try.prog 72 QJU:=
 Jc (QT QDZ) Try.func72 (by kernel_rfl) (by kernel_rfl) (by decide) QSA QSz
def QCT:Tab:=Qg Wg 72 QJU
theorem QKh:QZ QCT:=QDZ.add QS6
def com(x y:Sp):Bool:=decide (x.lo≤y.hi)&&decide (y.lo≤x.hi)
def isF(b s:Edge):Bool:=(b.kind==s.kind)&&(com b.at_ s.at_&&(com b.wide s.wide&&com b.deep s.deep))
def QHP:Edge×Edge×Unit→Bool×AV:=fun|(b,(s,_))=>(true,.bool false (isF b s))
def QJu:FC:=Q8 (KA QHP)
theorem QVj(b:Edge)(s:Edge):Q5 (mkE Try.prog QCT) (hnd (mkE Try.prog QCT) 3) false Try.f125 (Qt.enc ((b,s,()):Edge×Edge×Unit)) [] 0 =
  QD.br (b.kind==s.kind) (QD.br (decide (b.at_.lo≤s.at_.hi)) (QD.br (decide (s.at_.lo≤b.at_.hi)) (QD.br (decide (b.wide.lo≤s.wide.hi)) (QD.br (decide (s.wide.lo ≤
  b.wide.hi)) (QD.br (decide (b.deep.lo≤s.deep.hi)) (QD.leaf (AV.bool false (decide (s.deep.lo≤b.deep.hi))) ([])) (QD.leaf (AV.bool true false) ([]))) (QD.leaf (AV.bool
  true false) ([]))) (QD.leaf (AV.bool true false) ([]))) (QD.leaf (AV.bool true false) ([]))) (QD.leaf (AV.bool true false) ([]))) (QD.leaf (AV.bool true false) ([])):=by kernel_rfl
theorem QWo:QP Try.prog 125 QJu:=by
 refine KN QKh 3 Try.func125 (by kernel_rfl) (by kernel_rfl) ?_
 rintro⟨b,s,⟨⟩⟩ hp;rw[QVj b s];simp only[QHP,QD.den,AV.same,AV.sameL,and_true,true_and]at hp ⊢;simp only[isF,com];generalize (b.kind==s.kind)=x1;generalize decide (b.at_.lo≤s.at_.hi)=x2
 generalize decide (s.at_.lo≤b.at_.hi)=x3
 generalize decide (b.wide.lo≤s.wide.hi)=x4;generalize decide (s.wide.lo≤b.wide.hi)=x5;generalize decide (b.deep.lo≤s.deep.hi)=x6;generalize decide (s.deep.lo≤b.deep.hi)=x7;cases x1<;>cases x2<;>cases x3<;>cases x4<;>cases x5<;>cases x6<;>cases x7<;>simp
def XF:Tab:=Qg QCT 125 QJu
theorem GW:QZ XF:=QKh.add QWo
structure QS where
 up:Edge
 right:Edge
 down:Edge
 left:Edge
def QS.ok(p:QS):Bool:=p.up.ok&&(p.right.ok&&(p.down.ok&&p.left.ok))
instance : QA QS where
  ks := [.int .i64,.int .i64,.int .i64,.int .i64,.int .i64,.int .i64,.int .i64,.int .i64,.int .i64,.int .i64,.int .i64,.int .i64,.int .i64,.int .i64,.int .i64,.int .i64,.int .i64,.int .i64,.int .i64,.int .i64,.int .i64,.int .i64,.int .i64,.int .i64,.int .i64,.int .i64,.int .i64,.int .i64]
  enc p j := match j with
    | 0 => p.up.kind
    | 1 => p.up.at_.lo
    | 2 => p.up.at_.hi
    | 3 => p.up.wide.lo
    | 4 => p.up.wide.hi
    | 5 => p.up.deep.lo
    | 6 => p.up.deep.hi
    | 7 => p.right.kind
    | 8 => p.right.at_.lo
    | 9 => p.right.at_.hi
    | 10 => p.right.wide.lo
    | 11 => p.right.wide.hi
    | 12 => p.right.deep.lo
    | 13 => p.right.deep.hi
    | 14 => p.down.kind
    | 15 => p.down.at_.lo
    | 16 => p.down.at_.hi
    | 17 => p.down.wide.lo
    | 18 => p.down.wide.hi
    | 19 => p.down.deep.lo
    | 20 => p.down.deep.hi
    | 21 => p.left.kind
    | 22 => p.left.at_.lo
    | 23 => p.left.at_.hi
    | 24 => p.left.wide.lo
    | 25 => p.left.wide.hi
    | 26 => p.left.deep.lo
    | _ => p.left.deep.hi
  dec f := ⟨⟨f 0,⟨f 1,f 2⟩,⟨f 3,f 4⟩,⟨f 5,f 6⟩⟩,⟨f 7,⟨f 8,f 9⟩,⟨f 10,f 11⟩,⟨f 12,f 13⟩⟩,⟨f 14,⟨f 15,f 16⟩,⟨f 17,f 18⟩,⟨f 19,f 20⟩⟩,⟨f 21,⟨f 22,f 23⟩,⟨f 24,f 25⟩,⟨f 26,f 27⟩⟩⟩
  ok _ := rfl
instance : Enc QS where
  enc p := .agg [.int false .i64 p.up.kind,.int false .i64 p.up.at_.lo,.int false .i64 p.up.at_.hi,.int false .i64 p.up.wide.lo,.int false .i64 p.up.wide.hi,.int false .i64 p.up.deep.lo,.int false .i64 p.up.deep.hi,.int false .i64 p.right.kind,.int false .i64 p.right.at_.lo,.int false .i64 p.right.at_.hi,.int false .i64 p.right.wide.lo,.int false .i64 p.right.wide.hi,.int false .i64 p.right.deep.lo,.int false .i64 p.right.deep.hi,.int false .i64 p.down.kind,.int false .i64 p.down.at_.lo,.int false .i64 p.down.at_.hi,.int false .i64 p.down.wide.lo,.int false .i64 p.down.wide.hi,.int false .i64 p.down.deep.lo,.int false .i64 p.down.deep.hi,.int false .i64 p.left.kind,.int false .i64 p.left.at_.lo,.int false .i64 p.left.at_.hi,.int false .i64 p.left.wide.lo,.int false .i64 p.left.wide.hi,.int false .i64 p.left.deep.lo,.int false .i64 p.left.deep.hi]
  dec
    | .agg [.int _ .i64 a0,.int _ .i64 a1,.int _ .i64 a2,.int _ .i64 a3,.int _ .i64 a4,.int _ .i64 a5,.int _ .i64 a6,.int _ .i64 a7,.int _ .i64 a8,.int _ .i64 a9,.int _ .i64 a10,.int _ .i64 a11,.int _ .i64 a12,.int _ .i64 a13,.int _ .i64 a14,.int _ .i64 a15,.int _ .i64 a16,.int _ .i64 a17,.int _ .i64 a18,.int _ .i64 a19,.int _ .i64 a20,.int _ .i64 a21,.int _ .i64 a22,.int _ .i64 a23,.int _ .i64 a24,.int _ .i64 a25,.int _ .i64 a26,.int _ .i64 a27] => some ⟨⟨a0,⟨a1,a2⟩,⟨a3,a4⟩,⟨a5,a6⟩⟩,⟨a7,⟨a8,a9⟩,⟨a10,a11⟩,⟨a12,a13⟩⟩,⟨a14,⟨a15,a16⟩,⟨a17,a18⟩,⟨a19,a20⟩⟩,⟨a21,⟨a22,a23⟩,⟨a24,a25⟩,⟨a26,a27⟩⟩⟩
    | _ => none
  ok v x h := by
    split at h <;> (try (cases h; done))
    simp only[qsI]at h; subst h;exact⟨fun _ => rfl,rfl⟩
structure Puz where
 play:Qq
 wide:Int
 high:Int
 turn:Bool
 ps:Rw QS
instance : Q7 Puz where
  val k x := .agg [.int false .i64 x.play.length,.int false .i64 x.play.slack,.int false .i64 x.play.loose,.int false .i64 x.play.damp.lo,.int false .i64 x.play.damp.hi,.int false .i64 x.wide,.int false .i64 x.high,.bool false x.turn,Q7.val k x.ps]
  blk k x := Q7.blk k x.ps
  dec v lk := match v with
    | .agg [.int _ .i64 a,.int _ .i64 b,.int _ .i64 c,.int _ .i64 d,.int _ .i64 e,.int _ .i64 f,.int _ .i64 g,.bool _ t,s] => (match (Q7.dec s lk : Option (Bool × Rw QS))with
      | some (p,x) => some (p,⟨⟨a,b,c,⟨d,e⟩⟩,f,g,t,x⟩)
      | none => none)
    | _ => none
  ok v lk p x h hp := by
    split at h <;> (try (cases h; done))
    split at h <;> (try (cases h; done))
    rename_i a b c d e f g t s p' x' hd;simp only[qsI,qpI]at h;obtain⟨rfl,rfl⟩ := h;obtain⟨h1,h2⟩ := Q7.ok _ _ _ _ hd hp;refine⟨fun k => ⟨?_,(h1 k).2⟩,fun r w hb => ?_⟩
    · have := (h1 k).1
      simp only[AV.all,AV.allL,Bool.true_and,Bool.and_true]; exact this
    · obtain⟨l,hl⟩ := h2 r w hb
      refine⟨l,fun k r' hr => ⟨?_,(hl k r' hr).2⟩⟩;have := (hl k r' hr).1;simp only[AV.den,AV.denL]at this ⊢;rw[this]
def QIu:AV→Bool
 | .agg _=>true
 | _=>false
theorem QRR{v:AV}(h:QIu v=true):∃ l,v = .agg l:=by
 cases v<;>first|(cases h;done)|exact⟨_,rfl⟩
structure FnC (α:Type) (g ty:Nat) where
 x:α
instance {α : Type} [Enc α] (g ty : Nat) : Q7 (FnC α g ty) where
  val k _ := .fn (.func g) [.ptr k 0 0]
  blk k x := [(k,.cellsR 0 ty (Enc.enc x.x).cells)]
  dec v lk := match v with
    | .fn (.func g') [.ptr id e j] => (match Nat.beq g' g && (Nat.beq e 0 && Nat.beq j 0)with
      | true => (match lk id with
        | some (.cellsR z ty' l) => (match Nat.beq ty' ty && Nat.beq z 0 with
          | true => (match (Enc.dec (.agg l) : Option α)with
            | some a => (match QIu (Enc.enc a)with | true => some (true,⟨a⟩) | false => none)
            | none => none)
          | false => none)
        | _ => none)
      | false => none)
    | _ => none
  ok v lk p x h _ := by
    split at h <;> (try (cases h; done))
    rename_i g' id e j;split at h <;> (try (cases h; done))
    rename_i hg;split at h <;> (try (cases h; done))
    rename_i z ty' l hlk;split at h <;> (try (cases h; done))
    rename_i hz;split at h <;> (try (cases h; done))
    rename_i a ha;split at h <;> (try (cases h; done))
    rename_i hagg;simp only[qbA]at hg hz;have hg1 := Nat.eq_of_beq_eq_true hg.1;have he := Nat.eq_of_beq_eq_true hg.2.1;have hj := Nat.eq_of_beq_eq_true hg.2.2;have ht := Nat.eq_of_beq_eq_true hz.1;have hz0 := Nat.eq_of_beq_eq_true hz.2;subst hg1 he hj ht hz0;simp only[qsI,qpI]at h;obtain⟨_,rfl⟩ := h;obtain⟨k1,k2⟩ := Enc.ok _ _ ha;obtain⟨l',hl'⟩ := QRR hagg;rw[hl']at k1 k2;have hcl : (Enc.enc a).cells = l' := by rw[hl']; rfl
    have k3 : ∀ r,AV.denL r l' = AV.denL r l := fun r => by
      have := k1 r;simp only[AV.den,Value.agg.injEq]at this;exact Array.toList_inj.2 this |> fun h => by simpa using h
    refine⟨fun k => ⟨by simp[AV.all,AV.allL],fun q hq => ?_⟩,fun r w hb => ⟨r id,fun k r' hr => ⟨?_,fun q hq => ?_⟩⟩⟩
    · simp only[List.mem_singleton]at hq; subst hq
      refine⟨rfl,rfl,?_⟩;show AV.allL _ (Enc.enc a).cells = true;rw[hcl]; exact k2
    · simp only[AV.den,AV.denL,hr]
    · simp only[List.mem_singleton]at hq; subst hq
      obtain⟨b1,b2,b3⟩ := hb _ _ hlk;refine⟨by rw[hr]; exact b1,by rw[hr]; exact b2,?_⟩
      show bk w (r' k).blk = some (.cells (AV.denL r' (Enc.enc a).cells).toArray _ _);rw[hr,hcl,denL_congr (p := fun _ => false) (r := r') (r' := r) (fun _ hf => by cases hf) _ k2,k3 r]
      exact b3
abbrev VD:Type:=FnC Qq 71 25
def K7:Edge:=⟨0,⟨0,0⟩,⟨0,0⟩,⟨0,0⟩⟩
def Kz(m:VD)(l:Rw QS)(i:Nat):Bool := !(m.x.ok&&(l.get i).ok)
theorem QHt(x:QS)(L:Rw Edge)(hn:L.n=4)(h0:L.get 0=x.up)(h1:L.get 1=x.right)(h2:L.get 2=x.down)(h3:L.get 3=x.left):(YK p K7 L != 0) = !(p.ok&&x.ok):=by
 have z:K7.ok=true:=by decide
 have e:XB p K7 L=(p.ok&&x.ok):=by
  simp only[XB,z,YQ,QM,hn,h0,h1,h2,h3,QS.ok,Bool.true_and];cases p.ok<;>cases x.up.ok<;>cases x.right.ok<;>cases x.down.ok<;>cases x.left.ok<;>rfl
 have d:decide (L.n>40)=false:=by rw[hn];rfl
 simp only[YK,e,d];cases p.ok&&x.ok<;>rfl
def idp(l:Rw QS)(m:VD):List (Nat×Blk):=Q7.blk 0 l++Q7.blk 1 m
def QAE(l:Rw QS)(m:VD)(k:Nat):JSt:=⟨19,[(0,.slz 0 0 l.n (.of 0)),(1,Q7.val 1 m),(7,.int false .i64 l.n),(8,.int false .i64 k)],idp l m,8⟩
noncomputable abbrev qz(l:Rw QS):List AV:=
  [vi (l.get k).up.kind,vi (l.get k).up.at_.lo,vi (l.get k).up.at_.hi,vi (l.get k).up.wide.lo,vi (l.get
  k).up.wide.hi,vi (l.get k).up.deep.lo,vi (l.get k).up.deep.hi]
noncomputable abbrev qC(l:Rw QS):List AV:=
  [vi (l.get k).right.kind,vi (l.get k).right.at_.lo,vi (l.get k).right.at_.hi,vi (l.get k).right.wide.lo,.int false .i64
  (l.get k).right.wide.hi,vi (l.get k).right.deep.lo,vi (l.get k).right.deep.hi]
noncomputable abbrev qx(l:Rw QS):List AV:=
  [vi (l.get k).down.kind,vi (l.get k).down.at_.lo,vi (l.get k).down.at_.hi,vi (l.get k).down.wide.lo,vi (l.get
  k).down.wide.hi,vi (l.get k).down.deep.lo,vi (l.get k).down.deep.hi]
noncomputable abbrev qy(l:Rw QS):List AV:=
  [vi (l.get k).left.kind,vi (l.get k).left.at_.lo,vi (l.get k).left.at_.hi,vi (l.get k).left.wide.lo,vi (l.get
  k).left.wide.hi,vi (l.get k).left.deep.lo,vi (l.get k).left.deep.hi]
theorem QZp(l:Rw QS)(m:VD)(k:Nat)(g:Nat→Value):exec (mkE Try.prog XF) (hnd (mkE Try.prog XF) 4) (QX Try.f90 0) (JSt.inst (QAE l m k) g) (KT [] vN) = .br (decide ((k:Int)<(l.n:Int))) (.need (decide ((0 :
  Int)≤(k:Int)∧(k:Int)<(l.n:Int))&&decide (l.n≤l.n)) (.need (decide (k<l.n)) (.need (true&&(true&&(true&&true))&&decide (4≤1000)) (.br (YK m.x (Edge.mk
  (0:Int) (Sp.mk (0:Int) (0:Int)) (Sp.mk (0:Int) (0:Int)) (Sp.mk (0:Int) (0:Int))) (Rw.mk 4 fun i=>Edge.mk (QU [(qz k l),(qC k l),(qx k l),(qy k l)] 0 i
  0) (Sp.mk (QU [(qz k l),(qC k l),(qx k l),(qy k l)] 0 i 1) (QU [(qz k l),(qC k l),(qx k l),(qy k l)] 0 i 2)) (Sp.mk (QU [(qz k l),(qC k l),(qx k
  l),(qy k l)] 0 i 3) (QU [(qz k l),(qC k l),(qx k l),(qy k l)] 0 i 4)) (Sp.mk (QU [(qz k l),(qC k l),(qx k l),(qy k l)] 0 i 5) (QU [(qz k l),(qC k
  l),(qx k l),(qy k l)] 0 i 6))) != 0) (.leaf (.tup [.nili,.ptr 19 0 0,vi (k:Int)]) ([])) (.leaf (.tup [.nilp,.ptr 19 0 0,.slz 0 0 l.n cO,.fn
  (Fn.func 71) [.ptr 1 0 0],vi (l.n:Int),vi (i64.wrap ((k:Int)+1))]) ([(0,.frz [.int .i64,.int .i64,.int .i64,.int .i64,.int .i64,.int
  .i64,.int .i64,.int .i64,.int .i64,.int .i64,.int .i64,.int .i64,.int .i64,.int .i64,.int .i64,.int .i64,.int .i64,.int .i64,.int .i64,.int .i64,.int .i64,.int .i64,
  .int .i64,.int .i64,.int .i64,.int .i64,.int .i64,.int .i64] l.n fun i=>QA.enc (l.get i)),(1,.cellsR 0 25 [vi m.x.length,vi m.x.slack,.int
  false .i64 m.x.loose,vi m.x.damp.lo,vi m.x.damp.hi])])))))) (.leaf (.tup [.ptr 0 0 0,.ptr 19 0 0]) ([])):=by kernel_rfl
def QMl(l:Rw QS)(m:VD)(k:Nat)(e:Ex)(J:JSt):Prop:=(e = .ret∧(QM (Kz m l) (l.n-k) k).isSome=true∧J=⟨19,[(4,.int false .i64 (KY (QM (Kz m l) (l.n-k) k)))],[],8⟩)∨(e = .exit 0∧QM (Kz m l) (l.n-k) k=none∧J=⟨19,[],[],8⟩)
theorem QWL(l:Rw QS)(m:VD)(k:Nat)(i:Int):QL 8 [.slz 0 0 l.n cO,Q7.val 1 m,vi l.n,vi i] (idp l m) (QAE l m k)=(
  some [(0:Nat)=(0:Nat),l.n=l.n,Cap.of (0:Nat)=Cap.of (0:Nat),Fn.func (71:Nat)=Fn.func (71:Nat),(0:Nat)=(0:Nat),(0:Nat)=(0:Nat),(↑l.n:Int) =
  (↑l.n:Int),i=(↑k:Int),l.n≤l.n,QC (28:Nat) l.n (fun i=>QA.enc (l.get i)) fun i=>QA.enc (l.get i),m.x.length=m.x.length,m.x.slack=m.x.slack,m.x.loose =
  m.x.loose,m.x.damp.lo=m.x.damp.lo,m.x.damp.hi=m.x.damp.hi]):=by kernel_rfl
theorem QR8(l:Rw QS)(m:VD)(hl:l.n≤1000):JJ (QAE l m) (fun k=>k≤l.n) (fun k=>l.n-k) (QMl l m) 8 vN [] (mkE Try.prog XF) (fun _=>hnd (mkE Try.prog XF) 4) (QX Try.f90 0):=by
 refine⟨fun k g hk=>⟨zy (QZp l m k g) ?_⟩⟩;refine QG (fun h => ?_) (fun h => ?_)
 ·have h:k<l.n:=by have:=qdt h;omega
  obtain⟨n,hm⟩:∃ n,l.n-k=n+1:=⟨l.n-k-1,by omega⟩
  have hm':l.n-(k+1)=n:=by omega
  refine QF (by simp;omega) (QF (by simp;omega) (QF rfl (QG (fun hb => ?_) (fun hb => ?_))))
  ·have hf:QM (Kz m l) (l.n-k) k=some k:=by rw[hm,QM];unfold Kz;rw[(QHt m.x (l.get k) _ rfl rfl rfl rfl rfl).symm.trans hb]
   exact⟨_,.inl ⟨rfl,by rw[hf];rfl,rfl⟩,rfl,rfl,_,jE _ _,by rw[hf];exact⟨rfl,trivial⟩⟩
  ·have hf:QM (Kz m l) (l.n-k) k=QM (Kz m l) (l.n-(k+1)) (k+1):=by rw[hm,hm',QM];unfold Kz;rw[(QHt m.x (l.get k) _ rfl rfl rfl rfl rfl).symm.trans hb]
   refine⟨k+1,by omega,by show l.n-(k+1)<l.n-k;omega,fun e J h=>by unfold QMl at h ⊢;rw[hf];exact h,rfl,rfl,_,QWL _ _ _ _,?_⟩
   repeat' first|exact trivial|with_reducible rfl|exact qlr _|exact qRr|exact(w64 (by omega) (by omega)).trans (by omega)|refine And.intro ?_ ?_
 ·have h:l.n≤k:=by have:=of_decide_eq_false h;omega
  have hf:QM (Kz m l) (l.n-k) k=none:=by rw[show l.n-k=0 by omega];rfl
  exact⟨_,.inr ⟨rfl,hf,rfl⟩,rfl,rfl,_,QFT,trivial⟩
def QXB(l:Rw QS)(m:VD):List (Prop×Ex×JSt):=[((QM (Kz m l) l.n 0).isSome=true,.ret,⟨19,[(4,.int false .i64 (KY (QM (Kz m l) l.n 0)))],[],8⟩),(QM (Kz m l) l.n 0=none,.exit 0,⟨19,[],[],8⟩)]
abbrev Ho(l:Rw QS)(m:VD):Code→St→(Ex→St→QD)→QD:=fun _=>KD 8 [] (QAE l m 0) (QXB l m)
theorem QTq(l:Rw QS)(m:VD)(hl:l.n≤1000)(G:Ctx)(hrd:G.rd=none)(hG:G.n=8):KC (mkE Try.prog XF) G { hnd (mkE Try.prog XF) 1 with loop:=Ho l m } (Qs Try.f90):=by
 refine Jj (body:=QX Try.f90 0) (QT GW) hrd (by kernel_rfl) ?_
 refine JW (n0:=8) (QT GW) (by omega) (fun s hs=>Qy (QT GW) 4 G _ hrd) (fun s hs=>qlr _) ?_ (QR8 l m hl) (s0:=0) (Nat.zero_le _) ?_
 ·rintro s e J (⟨_,_,rfl⟩|⟨_,_,rfl⟩)<;>exact qlr _
 ·rintro e J (⟨rfl,h,rfl⟩|⟨rfl,h,rfl⟩)
  ·exact⟨_,List.mem_cons_self,h,rfl,rfl⟩
  ·exact⟨_,List.mem_cons_of_mem _ List.mem_cons_self,h,rfl,rfl⟩
def GH:WF ((Rw QS)×VD×Unit):=fun|(l,(m,_))=>(decide (l.n≤1000),.int false .i64 (KY (QM (Kz m l) l.n 0)),[])
def QJm:FC:=wFC GH
theorem QWv(l:(Rw QS))(m:VD):KO (mkE Try.prog XF) { hnd (mkE Try.prog XF) 1 with loop:=Ho l m } Try.f90 (QV.vals 0 ((l,m,()):(Rw QS)×VD×Unit)) (QV.blks 0 ((l,m,()):(Rw QS)×VD×Unit)) 8 =
  QD.ask ((0:Nat)=(0:Nat)) (QD.ask (l.n=l.n) (QD.ask (Cap.of (0:Nat)=Cap.of (0:Nat)) (QD.ask (Fn.func (71:Nat)=Fn.func (71:Nat)) (QD.ask ((0:Nat)=(0
  : Nat)) (QD.ask ((0:Nat)=(0:Nat)) (QD.ask ((↑l.n:Int)=(↑l.n:Int)) (QD.ask ((0:Int)=(0:Int)) (QD.ask (l.n≤l.n) (QD.ask (QC (28:Nat) l.n (fun i=>
  QA.enc (l.get i)) fun i=>QA.enc (l.get i)) (QD.ask (m.x.length=m.x.length) (QD.ask (m.x.slack=m.x.slack) (QD.ask (m.x.loose=m.x.loose) (QD.ask (m.x.damp.lo =
  m.x.damp.lo) (QD.ask (m.x.damp.hi=m.x.damp.hi) (QD.both (QD.asm ((QM (Kz m l) l.n (0:Nat)).isSome=true) (QD.all (fun(g0:Nat→Value)=>QD.leaf (AV.int
  false i64 (KY (QM (Kz m l) l.n (0:Nat)))) ([])))) (QD.asm (QM (Kz m l) l.n (0:Nat)=none) (QD.all (fun(g1:Nat→Value)=>QD.leaf (AV.int true
  i64 (-1:Int)) ([]))))))))))))))))))):=by kernel_rfl
theorem QZd:JN (mkE Try.prog XF) (Qs Try.f90) 8 GH (fun x_=>{ hnd (mkE Try.prog XF) 1 with loop:=Ho x_.1 x_.2.1 }):=by
 refine⟨?_⟩;rintro⟨l,⟨m,⟨⟩⟩⟩ hp G h1 h2;exact QTq l m (qdt hp) G h1 h2
theorem QS4:JS (mkE Try.prog XF) Try.f90 8 GH (fun x_=>{ hnd (mkE Try.prog XF) 1 with loop:=Ho x_.1 x_.2.1 }):=by
 refine⟨?_⟩;rintro⟨l,⟨m,⟨⟩⟩⟩ hp;refine⟨⟨rfl,by simp[GH],rfl⟩,⟨?_⟩⟩
 rw[QWv l m];simp only[GH]at hp
 repeat' first|refine Qa (by with_reducible rfl) ?_|refine Qa (qlr _) ?_|refine Qa (qRr) ?_|refine Qa (show _=_ from rfl) ?_
 refine Xf (KJ fun h=>KF fun g => ?_) (KJ fun h=>KF fun g => ?_)
 ·exact Kp ⟨rfl,rfl⟩ rfl
 ·exact Kp ⟨rfl,by show(-1:Int)=KY (QM (Kz m l) l.n 0);rw[h];rfl⟩ rfl
theorem QP7:QP Try.prog 90 QJm:=
 Jc (QT GW) Try.func90 (by kernel_rfl) (by kernel_rfl) (by decide) QZd QS4
def WG:Tab:=Qg XF 90 QJm
theorem QEh:QZ WG:=GW.add QP7
def zE:WF ((Rw QS)×VD×Unit):=fun|(l,(m,_))=>(decide (l.n≤1000),.bool false (decide (KY (QM (Kz m l) l.n 0)≥0)),[])
def QJL:FC:=wFC zE
theorem QSk(l:(Rw QS))(m:VD):KO (mkE Try.prog WG) (hnd (mkE Try.prog WG) 0) Try.f70 (QV.vals 0 ((l,m,()):(Rw QS)×VD×Unit)) (QV.blks 0 ((l,m,()):(Rw QS)×VD×Unit)) 8 =
  QD.need (decide (l.n≤l.n)&&(true&&true)&&decide (l.n≤(1000:Nat))) (QD.leaf (AV.bool false (decide (KY (QM (Kz m l) l.n (0:Nat))≥(0:Int)))) ([])):=by kernel_rfl
theorem QTa:JN (mkE Try.prog WG) (Qs Try.f70) 8 zE (fun x_=>(hnd (mkE Try.prog WG) 0)):=by
 refine⟨?_⟩;rintro⟨l,⟨m,⟨⟩⟩⟩ hp G h1 h2;exact Qy (QT QEh) 0 G _ h1
theorem QWj:JS (mkE Try.prog WG) Try.f70 8 zE (fun x_=>(hnd (mkE Try.prog WG) 0)):=by
 refine⟨?_⟩;rintro⟨l,⟨m,⟨⟩⟩⟩ hp;refine⟨⟨rfl,by simp[zE],rfl⟩,⟨?_⟩⟩
 rw[QSk l m];simp only[zE]at hp;exact QF (by simpa using hp) (Kp rfl rfl)
theorem QYU:QP Try.prog 70 QJL:=
 Jc (QT QEh) Try.func70 (by kernel_rfl) (by kernel_rfl) (by decide) QTa QWj
def QCU:Tab:=Qg WG 70 QJL
theorem QLB:QZ QCU:=QEh.add QYU
def VK(l:Rw QS):Bool:=(QM (Kz ⟨p⟩ l) l.n 0).isNone
def QPC:Int×Int×Int×Unit→Bool×AV:=fun|(n,(a,(b,_)))=>(true,.bool false (QW n a b))
def QIw:FC:=Q8 (KA QPC)
theorem QRN(n:Int)(a:Int)(b:Int):Q5 (mkE Try.prog QCU) (hnd (mkE Try.prog QCU) 2) false Try.f66 (Qt.enc ((n,a,b,()):Int×Int×Int×Unit)) [] 0 =
  QD.br (decide (a≤n)) (QD.leaf (AV.bool false (decide (n≤b))) ([])) (QD.leaf (AV.bool true false) ([])):=by kernel_rfl
theorem QXn:QP Try.prog 66 QIw:=by
 refine KN QLB 2 Try.func66 (by kernel_rfl) (by kernel_rfl) ?_
 rintro⟨n,a,b,⟨⟩⟩ hp;rw[QRN n a b];simp only[QPC,QD.den,AV.same,AV.sameL,and_true,true_and]at hp ⊢
 (repeat' (first|(refine And.intro ?_ ?_)|(intro _)))<;>simp_all [QW]<;>omega
def Z9:Tab:=Qg QCU 66 QIw
theorem QC2:QZ Z9:=QLB.add QXn
def zb:WF (Qq×(Rw QS)×Unit):=fun|(p,(l,_))=>(decide (l.n≤1000),.bool false (VK p l),[])
def QLl:FC:=wFC zb
theorem QWH(l:(Rw QS)):KO (mkE Try.prog Z9) (hnd (mkE Try.prog Z9) 0) Try.f42 (QV.vals 0 ((p,l,()):Qq×(Rw QS)×Unit)) (QV.blks 0 ((p,l,()):Qq×(Rw QS)×Unit)) 8 =
  QD.need (decide (l.n≤l.n)&&(true&&true)&&decide (l.n≤(1000:Nat))) (QD.leaf (AV.bool false !decide (KY (QM (Kz (FnC.mk p) l) l.n (0:Nat))≥(0:Int)))
  ([])):=by kernel_rfl
theorem QT0:JN (mkE Try.prog Z9) (Qs Try.f42) 8 zb (fun x_=>(hnd (mkE Try.prog Z9) 0)):=by
 refine⟨?_⟩;rintro⟨p,⟨l,⟨⟩⟩⟩ hp G h1 h2;exact Qy (QT QC2) 0 G _ h1
theorem QVd:JS (mkE Try.prog Z9) Try.f42 8 zb (fun x_=>(hnd (mkE Try.prog Z9) 0)):=by
 refine⟨?_⟩;rintro⟨p,⟨l,⟨⟩⟩⟩ hp;refine⟨⟨rfl,by simp[zb],rfl⟩,⟨?_⟩⟩
 rw[QWH p l];simp only[zb]at hp;exact QF (by simpa using hp) (Kp (QC5 _) rfl)
theorem QR1:QP Try.prog 42 QLl:=
 Jc (QT QC2) Try.func42 (by kernel_rfl) (by kernel_rfl) (by decide) QT0 QVd
def WH:Tab:=Qg Z9 42 QLl
theorem QFw:QZ WH:=QC2.add QR1
def Puz.okN(d:Puz):Bool:=QW (d.ps.n:Int) 1 9&&(QW d.wide 1 d.ps.n&&(QW d.high 1 d.ps.n&&i64.wrap (d.wide*d.high)==(d.ps.n:Int)))
def Puz.ok(d:Puz):Bool:=d.okN&&VK d.play d.ps
def qr:WF (Puz×Unit):=fun|(d,_)=>(decide (d.ps.n≤1000),.bool false d.ok,[])
def QLO:FC:=wFC qr
theorem QT9(d:Puz):KO (mkE Try.prog WH) (hnd (mkE Try.prog WH) 0) Try.f37 (QV.vals 0 ((d,()):Puz×Unit)) (QV.blks 0 ((d,()):Puz×Unit)) 8 =
  QD.need (true) (QD.br (QW (↑d.ps.n:Int) (1:Int) (9:Int)) (QD.need (true) (QD.br (QW d.wide (1:Int) (↑d.ps.n:Int)) (QD.need (true) (QD.br (QW d.high
  (1:Int) (↑d.ps.n:Int)) (QD.br (i64.wrap (d.wide*d.high)==(↑d.ps.n:Int)) (QD.need (true&&(decide (d.ps.n≤d.ps.n)&&true)&&decide (d.ps.n≤(1000:Nat)))
  (QD.leaf (AV.bool false (VK d.play d.ps)) ([]))) (QD.leaf (AV.bool true false) ([]))) (QD.leaf (AV.bool true false) ([])))) (QD.leaf (AV.bool true false) ([]))))
  (QD.leaf (AV.bool true false) ([]))):=by kernel_rfl
theorem QUo:JN (mkE Try.prog WH) (Qs Try.f37) 8 qr (fun x_=>(hnd (mkE Try.prog WH) 0)):=by
 refine⟨?_⟩;rintro⟨d,⟨⟩⟩ hp G h1 h2;exact Qy (QT QFw) 0 G _ h1
theorem QTb:JS (mkE Try.prog WH) Try.f37 8 qr (fun x_=>(hnd (mkE Try.prog WH) 0)):=by
 refine⟨?_⟩;rintro⟨d,⟨⟩⟩ hp;refine⟨⟨rfl,by simp[qr],rfl⟩,⟨?_⟩⟩
 rw[QT9 d];simp only[qr]at hp;have no:d.okN=false→(QD.leaf (AV.bool true false) []).den (Vg 8 (qr (d,())).2.1 (qr (d,())).2.2):=fun h=>Kp (show false=d.ok by rw[Puz.ok,h];rfl) rfl
 refine QF rfl (QG (fun h1=>QF rfl (QG (fun h2=>QF rfl (QG (fun h3=>QG (fun h4=>QF (by simpa using hp) (Kp (show VK d.play d.ps=d.ok by rw[Puz.ok,Puz.okN,h1,h2,h3,h4];rfl) rfl)) (fun h4=>no (by rw[Puz.okN,h1,h2,h3,h4];rfl))) (fun h3=>no (by rw[Puz.okN,h1,h2,h3];rfl)))) (fun h2=>no (by rw[Puz.okN,h1,h2];rfl)))) (fun h1=>no (by rw[Puz.okN,h1];rfl)))
theorem QUR:QP Try.prog 37 QLO:=
 Jc (QT QFw) Try.func37 (by kernel_rfl) (by kernel_rfl) (by decide) QUo QTb
def QCI:Tab:=Qg WH 37 QLO
theorem QJW:QZ QCI:=QFw.add QUR
def W8(s:Int):Int:=(s+2).tmod 4
def QJk:Int×Unit→Bool×AV:=fun|(s,_)=>(decide (0≤s∧s≤3),.int false .i64 (W8 s))
def QIg:FC:=Q8 (KA QJk)
theorem QYS(s:Int):Q5 (mkE Try.prog QCI) (hnd (mkE Try.prog QCI) 2) false Try.f39 (Qt.enc ((s,()):Int×Unit)) [] 0 =
  QD.leaf (AV.int false i64 ((i64.wrap (s+(2:Int))).tmod (4:Int))) ([]):=by kernel_rfl
theorem QTn:QP Try.prog 39 QIg:=by
 refine KN QJW 2 Try.func39 (by kernel_rfl) (by kernel_rfl) ?_
 rintro⟨s,⟨⟩⟩ hp;rw[QYS s];simp only[QJk,QD.den,AV.same,AV.sameL,and_true,true_and]at hp ⊢;have hp:=qdt hp;show(i64.wrap (s+2)).tmod 4=W8 s;rw[w64 (by omega) (by omega)];rfl
def Wn:Tab:=Qg QCI 39 QIg
theorem QGN:QZ Wn:=QJW.add QTn
def Qc(wide high cell side:Int):Int:=
 cond (side==0&&decide (0<cell.tdiv wide)) (cell-wide) (cond (side==1&&decide (cell.tmod wide<wide-1)) (cell+1)
  (cond (side==2&&decide (cell.tdiv wide<high-1)) (cell+wide) (cond (side==3&&decide (0<cell.tmod wide)) (cell-1) (-1))))
def qI:WF (Puz×Int×Int×Unit):=fun|(d,(c,(s,_)))=>(decide ((1≤d.wide∧d.wide≤100)∧(1≤d.high∧d.high≤100)∧(0≤c∧c≤100)),.int false .i64 (Qc d.wide d.high c s),[])
def QMw:FC:=wFC qI
theorem QZa(d:Puz)(c:Int)(s:Int):KO (mkE Try.prog Wn) (hnd (mkE Try.prog Wn) 0) Try.f38 (QV.vals 0 ((d,c,s,()):Puz×Int×Int×Unit)) (QV.blks 0 ((d,c,s,()):Puz×Int×Int ×
  Unit)) 8 = .need (!decide (d.wide=0)) (.need (!decide (d.wide=0)) (.br (s==0) (.br (decide (i64.wrap (c.tdiv d.wide)>0)) (.leaf (.int false .i64 (i64.wrap (c
  - d.wide))) ([])) (.br (s==1) (.br (decide (c.tmod d.wide<i64.wrap (d.wide-1))) (.leaf (.int false .i64 (i64.wrap (c+1))) ([])) (.br (s==2) (.br (decide
  (i64.wrap (c.tdiv d.wide)<i64.wrap (d.high-1))) (.leaf (.int false .i64 (i64.wrap (c+d.wide))) ([])) (.br (s==3) (.br (decide (c.tmod d.wide>0))
  (.leaf (.int false .i64 (i64.wrap (c-1))) ([])) (.leaf (.int true .i64 (-1)) ([]))) (.leaf (.int true .i64 (-1)) ([])))) (.br (s==3) (.br (decide (c.tmod d.wide>0))
  (.leaf (.int false .i64 (i64.wrap (c-1))) ([])) (.leaf (.int true .i64 (-1)) ([]))) (.leaf (.int true .i64 (-1)) ([]))))) (.br (s==2) (.br (decide (i64.wrap
  (c.tdiv d.wide)<i64.wrap (d.high-1))) (.leaf (.int false .i64 (i64.wrap (c+d.wide))) ([])) (.br (s==3) (.br (decide (c.tmod d.wide>0)) (.leaf (.int false
  .i64 (i64.wrap (c-1))) ([])) (.leaf (.int true .i64 (-1)) ([]))) (.leaf (.int true .i64 (-1)) ([])))) (.br (s==3) (.br (decide (c.tmod d.wide>0)) (.leaf (.int false
  .i64 (i64.wrap (c-1))) ([])) (.leaf (.int true .i64 (-1)) ([]))) (.leaf (.int true .i64 (-1)) ([])))))) (.br (s==1) (.br (decide (c.tmod d.wide<i64.wrap
  (d.wide-1))) (.leaf (.int false .i64 (i64.wrap (c+1))) ([])) (.br (s==2) (.br (decide (i64.wrap (c.tdiv d.wide)<i64.wrap (d.high-1))) (.leaf (.int
  false .i64 (i64.wrap (c+d.wide))) ([])) (.br (s==3) (.br (decide (c.tmod d.wide>0)) (.leaf (.int false .i64 (i64.wrap (c-1))) ([])) (.leaf (.int true .i64
  (-1)) ([]))) (.leaf (.int true .i64 (-1)) ([])))) (.br (s==3) (.br (decide (c.tmod d.wide>0)) (.leaf (.int false .i64 (i64.wrap (c-1))) ([])) (.leaf (.int true .i64
  (-1)) ([]))) (.leaf (.int true .i64 (-1)) ([]))))) (.br (s==2) (.br (decide (i64.wrap (c.tdiv d.wide)<i64.wrap (d.high-1))) (.leaf (.int false .i64
  (i64.wrap (c+d.wide))) ([])) (.br (s==3) (.br (decide (c.tmod d.wide>0)) (.leaf (.int false .i64 (i64.wrap (c-1))) ([])) (.leaf (.int true .i64 (-1)) ([])))
  (.leaf (.int true .i64 (-1)) ([])))) (.br (s==3) (.br (decide (c.tmod d.wide>0)) (.leaf (.int false .i64 (i64.wrap (c-1))) ([])) (.leaf (.int true .i64 (-1)) ([])))
  (.leaf (.int true .i64 (-1)) ([]))))))):=by kernel_rfl
theorem QUL:JN (mkE Try.prog Wn) (Qs Try.f38) 8 qI (fun x_=>(hnd (mkE Try.prog Wn) 0)):=by
 refine⟨?_⟩;rintro⟨d,⟨c,⟨s,⟨⟩⟩⟩⟩ hp G h1 h2;exact Qy (QT QGN) 0 G _ h1
theorem QZY:JS (mkE Try.prog Wn) Try.f38 8 qI (fun x_=>(hnd (mkE Try.prog Wn) 0)):=by
 refine⟨?_⟩;rintro⟨d,⟨c,⟨s,⟨⟩⟩⟩⟩ hp;refine⟨⟨rfl,by simp[qI],rfl⟩,⟨?_⟩⟩
 rw[QZa d c s];simp only[qI]at hp;obtain⟨⟨w1,w2⟩,⟨h1,h2⟩,c1,c2⟩:=qdt hp;have q0:0≤c.tdiv d.wide:=Int.tdiv_nonneg c1 (by omega)
 have q1:c.tdiv d.wide≤c:=by rw[Int.tdiv_eq_ediv_of_nonneg c1];exact Int.ediv_le_self _ c1
 have m0:0≤c.tmod d.wide:=Int.tmod_nonneg _ c1;have m1:c.tmod d.wide<d.wide:=Int.tmod_lt_of_pos _ (by omega)
 have e1:i64.wrap (c.tdiv d.wide)=c.tdiv d.wide:=w64 (by omega) (by omega)
 have e2:i64.wrap (c-d.wide)=c-d.wide:=w64 (by omega) (by omega)
 have e3:i64.wrap (d.wide-1)=d.wide-1:=w64 (by omega) (by omega)
 have e4:i64.wrap (c+1)=c+1:=w64 (by omega) (by omega)
 have e5:i64.wrap (d.high-1)=d.high-1:=w64 (by omega) (by omega)
 have e6:i64.wrap (c+d.wide)=c+d.wide:=w64 (by omega) (by omega)
 have e7:i64.wrap (c-1)=c-1:=w64 (by omega) (by omega)
 have dz:(!decide (d.wide=0))=true:=by simp;omega
 rw[e1,e2,e3,e4,e5,e6,e7];refine QF dz (QF dz ?_);have fin:∀ v:AV,v.same (.int false .i64 (Qc d.wide d.high c s))→(QD.leaf v []).den (Vg 8 (qI (d,c,s,())).2.1 (qI (d,c,s,())).2.2):=fun v h=>Kp h rfl
 repeat' refine QG (fun _ => ?_) (fun _ => ?_)
 all_goals refine fin _ ?_
 all_goals simp only[AV.same,Qc,true_and]
 all_goals grind
theorem QRE:QP Try.prog 38 QMw:=
 Jc (QT QGN) Try.func38 (by kernel_rfl) (by kernel_rfl) (by decide) QUL QZY
def YP:Tab:=Qg Wn 38 QMw
theorem HJ:QZ YP:=QGN.add QRE
end Go.Proofs.Ytbpffdkemeoajaa
