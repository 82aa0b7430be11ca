/- - -/
import Derived.Test.YtbpffdkemeoajaaGreatMpo
import Derived.Test.YtbpffdkemeoajaaGreatMpq
open Go.Proofs.Tryz
open Go.IntKind (i64)
set_option maxRecDepth 100000
namespace Go.Proofs.YtbpffdkemeoajaaGreat
open Go.SX
def QT(fn:Func)(k:Nat):Code:=match (JB (Qi fn))[k]? with
 | some (.loop b)=>b
 | _ => .skip
instance : QA Edge where
  ks := [.int .i64,.int .i64,.int .i64,.int .i64,.int .i64,.int .i64,.int .i64]
  enc e j := match j with
    | 0 => e.kind
    | 1 => e.at_.lo
    | 2 => e.at_.hi
    | 3 => e.wide.lo
    | 4 => e.wide.hi
    | 5 => e.deep.lo
    | _ => e.deep.hi
  dec f := ⟨f 0,⟨f 1,f 2⟩,⟨f 3,f 4⟩,⟨f 5,f 6⟩⟩
  ok _ := rfl
structure FnK (g:Nat) where
 u:Unit
instance (g : Nat) : Enc (FnK g) where
  enc _ := .fn (.func g) []
  dec v := match v with
    | .fn (.func g') [] => (match Nat.beq g' g with | true => some ⟨()⟩ | false => none)
    | _ => none
  ok v x h := by
    split at h <;> (try (cases h; done))
    split at h <;> (try (cases h; done))
    rename_i hg;have := qnb hg;subst this;exact⟨λ_=>rfl,rfl⟩
def QN(p:Nat->Bool):Nat->Nat->Option Nat
 | 0,_=>none
 | m+1,k=>match p k with
  | true=>some k
  | false=>QN p m (k+1)
def Kq:Option Nat->Int
 | some i=>i
 | none => -1
def ZO(p:Nat->Bool)(n:Nat):Bool:=(QN (λi=>!p i) n 0).isNone
theorem QAN{p:Nat->Bool}:∀{m k:Nat},QN p m k=none->∀ i,k<=i->i<k+m->p i=false
 | 0,k,_,i,h1,h2=>by omega
 | m+1,k,h,i,h1,h2=>by
  simp only[QN]at h;split at h
  .cases h
  .rename_i hk;rcases Nat.eq_or_lt_of_le h1 with rfl|hlt
   .exact hk
   .exact QAN h i hlt (by omega)
theorem QYT{p:Nat->Bool}{n:Nat}(h:ZO p n=true){i:Nat}(hi:i<n):p i=true:=by
 unfold ZO at h;rw[Option.isNone_iff_eq_none]at h;have:=QAN h i (Nat.zero_le _) (by omega)
 simpa using this
theorem Hb{p:Nat->Bool}:∀{m k:Nat},(∀ i,k<=i->i<k+m->p i=false)->QN p m k=none
 | 0,_,_=>rfl
 | m+1,k,h=>by
  simp only[QN];rw[h k (qlr _) (by omega)]
  exact Hb λi h1 h2=>h i (by omega) (by omega)
def QMA:Edge×Unit->Bool×AV:=λ|(s,_)=>(true,.bool false (!s.ok))
def QLc:FC:=KM (KN QMA)
variable (p:Qz)(s:Edge)(k:Nat)(l:Rw Edge)(least:Int)(o:List Int)
theorem QX9:KJ (mkE prog QC4) (hnd (mkE prog QC4) 0) false f133 (Q3.enc ((s,()):Edge×Unit)) [] 0=QE.need (true) (QE.leaf (AV.bool false !s.ok) ([])):=by kernel_rfl
theorem QVb:QO prog 133 QLc:=by
 refine KZ QOL 0 func133 (by kernel_rfl) (by kernel_rfl) ?_
 rintro⟨s,⟨⟩⟩ hp;rw[QX9 s];simp only[QMA,QE.den,AV.same,AV.sameL,and_true,true_and]at hp ⊢
def ZK:Tab:=Qh QC4 133 QLc
theorem Gh:QZ ZK:=QOL.add QVb
def VC(i:Nat):Bool := !(l.get i).ok
def QBE(k:Nat):JSt:=⟨19,[(0,.slz 0 0 l.n (.of 0)),(1,.fn (.func 133) []),(7,.int false .i64 l.n),(8,.int false .i64 k)],KD.blk 0 l,8⟩
def zM:Ex->List Nat
 | .normal=>[0,1,7,8]
 | .exit _=>[]
 | .ret=>[4]
theorem Qcg(k:Nat)(g:Nat->Value):exec (mkE prog ZK) (hnd (mkE prog ZK) 0) (QT f154 0) (JSt.inst (QBE l k) g) (KG [] zM)=QE.br (decide ((↑k:Int)<(↑l.n:Int))) (QE.need (decide ((0:Int)<=(↑k:Int)/\(↑k:Int)<(↑l.n:Int))&&decide (l.n<=l.n)) (QE.need (decide (k<l.n)) (QE.need (true) (QE.br (!(l.get k).ok) (QE.leaf (AV.tup [AV.nili,AV.ptr (19:Nat) (0:Nat) (0:Nat),vi (↑k:Int)]) ([])) (QE.leaf (AV.tup [AV.nilp,AV.ptr (19:Nat) (0:Nat) (0:Nat),AV.slz (0:Nat) (0:Nat) l.n cO,AV.fn (Fn.func (133:Nat)) [],vi (↑l.n:Int),vi (i64.wrap ((↑k:Int)+(1:Int)))]) ([((0:Nat),Blk.frz [CK.int i64,CK.int i64,CK.int i64,CK.int i64,CK.int i64,CK.int i64,CK.int i64] l.n λi=>QA.enc (l.get i))])))))) (QE.leaf (AV.tup [AV.ptr (0:Nat) (0:Nat) (0:Nat),AV.ptr (19:Nat) (0:Nat) (0:Nat)]) ([])):=by kernel_rfl
def QRC(k:Nat)(e:Ex)(J:JSt):Prop:=(e = .ret/\(QN (VC l) (l.n-k) k).isSome=true/\J=⟨19,[(4,.int false .i64 (Kq (QN (VC l) (l.n-k) k)))],[],8⟩)∨(e = .exit 0/\QN (VC l) (l.n-k) k=none/\J=⟨19,[],[],8⟩)
theorem QfX(k:Nat)(i:Int):QI 8 [.slz 0 0 l.n cO,.fn (.func 133) [],vi l.n,vi i] (KD.blk 0 l) (QBE l k)=( some [0=0,l.n=l.n,cO=cO,Fn.func (133:FuncId)=Fn.func (133:FuncId),(↑l.n:Int)=(↑l.n:Int),i=(↑k:Int),l.n<=l.n, QC (7:Nat) l.n (λi=>QA.enc (l.get i)) λi=>QA.enc (l.get i)]):=by kernel_rfl
theorem vK(i j:Int):QI 8 [vi i] [] ⟨19,[(4,vi j)],[],8⟩=( some [i=j]):=by kernel_rfl
theorem QEn :QI 8 [] [] ⟨19,[],[],8⟩=( some []):=by kernel_rfl
theorem Qbl(hl:l.n<=1000):Kk (QBE l) (λk=>k<=l.n) (λk=>l.n-k) (QRC l) 8 zM [] (mkE prog ZK) (λ_=>hnd (mkE prog ZK) 0) (QT f154 0):=by
 refine⟨λk g hk=>⟨QAz (Qcg l k g) ?_⟩⟩;refine QH ?_ ?_<;>intro h
 .have h:k<l.n:=by have:=qdt h;omega
  obtain⟨m,hm⟩:∃ m,l.n-k=m+1:=⟨l.n-k-1,by omega⟩
  have hm':l.n-(k+1)=m:=by omega
  refine QF (by simp;omega) (QF (by simp;omega) (QF rfl (QH (λhb=>?_) (λhb=>?_))))
  .have hf:QN (VC l) (l.n-k) k=some k:=by rw[hm,QN];unfold VC;rw[hb]
   exact⟨_,.inl ⟨rfl,by rw[hf];rfl,rfl⟩,rfl,rfl,_,vK _ _,by rw[hf];exact⟨rfl,trivial⟩⟩
  .have hf:QN (VC l) (l.n-k) k=QN (VC l) (l.n-(k+1)) (k+1):=by rw[hm,hm',QN];unfold VC;rw[hb]
   refine⟨k+1,by omega,by show l.n-(k+1)<l.n-k;omega,λe J h=>by unfold QRC at h ⊢;rw[hf];exact h,rfl,rfl,_,QfX _ _ _,?_⟩
   exact⟨rfl,rfl,rfl,rfl,rfl,(w64 (by omega) (by omega)).trans (by omega),qlr _,qRr,trivial⟩
 .have h:l.n<=k:=by have:=qdf h;omega
  have hf:QN (VC l) (l.n-k) k=none:=by rw[show l.n-k=0 by omega];rfl
  exact⟨_,.inr ⟨rfl,hf,rfl⟩,rfl,rfl,_,QEn,trivial⟩
def QfQ:List (Prop×Ex×JSt):=[((QN (VC l) l.n 0).isSome=true,.ret,⟨19,[(4,.int false .i64 (Kq (QN (VC l) l.n 0)))],[],8⟩),(QN (VC l) l.n 0=none,.exit 0,⟨19,[],[],8⟩)]
abbrev QCZ(P:Program)(l:Rw Edge):Hnd:={ hnd (mkE P ZK) 1 with loop:=λ_=>Q4 8 [] (QBE l 0) (QfQ l) }
theorem QdA(hl:l.n<=1000)(G:Ctx)(hrd:G.rd=none)(hG:G.n=8):Q8 (mkE prog ZK) G (QCZ prog l) (Qi f154):=by
 refine Kg (body:=QT f154 0) (QL Gh) hrd (by kernel_rfl) ?_
 refine Kr (n0:=8) (QL Gh) (by omega) (λs hs=>Qw (QL Gh) 0 G _ hrd) (λs hs=>qlr _) ?_ (Qbl l hl) (s0:=0) (Nat.zero_le _) ?_
 .rintro s e J (⟨_,_,rfl⟩|⟨_,_,rfl⟩)<;>exact qlr _
 .rintro e J (⟨rfl,h,rfl⟩|⟨rfl,h,rfl⟩)
  .exact⟨_,qmc,h,rfl,rfl⟩
  .exact⟨_,List.mem_cons_of_mem _ qmc,h,rfl,rfl⟩
theorem QV3(x:FnK 133):KI (mkE prog ZK) (QCZ prog l) f154 (QW.vals 0 (l,x,())) (QW.blks 0 (l,x,())) 8=QE.ask (0=0) (QE.ask (l.n=l.n) (QE.ask (cO=cO) (QE.ask (Fn.func (133:Nat)=Fn.func (133:FuncId)) (QE.ask ((↑l.n:Int)=(↑l.n:Int)) (QE.ask ((0:Int)=(0:Int)) (QE.ask (l.n<=l.n) (QE.ask (QC (7:Nat) l.n (λi=>QA.enc (l.get i)) λi=>QA.enc (l.get i)) (QE.both (QE.asm ((QN (VC l) l.n (0:Nat)).isSome=true) (QE.all (λ(g0:Nat->Value)=>QE.leaf (vi (Kq (QN (VC l) l.n (0:Nat)))) ([])))) (QE.asm (QN (VC l) l.n (0:Nat)=none) (QE.all (λ(g1:Nat->Value)=>QE.leaf (vj (-1:Int)) ([])))))))))))):=by kernel_rfl
def QBr:WF (Rw Edge×FnK 133×Unit):=λx=>(decide (x.1.n<=1000),vi (Kq (QN (VC x.1) x.1.n 0)),[])
def QJq:FC:=wFC QBr
theorem QaL:JG (mkE prog ZK) (Qi f154) 8 QBr (λx=>QCZ prog x.1):=
 ⟨λx hx G h1 h2=>QdA x.1 (qdt hx) G h1 h2⟩
theorem QeQ:JF (mkE prog ZK) f154 8 QBr (λx=>QCZ prog x.1):=by
 refine⟨?_⟩;rintro⟨l,x,⟨⟩⟩ hp;refine⟨⟨rfl,by simp[QBr],rfl⟩,⟨?_⟩⟩
 rw[QV3 l x];refine QX rfl (QX rfl (QX rfl (QX rfl (QX rfl (QX rfl (QX (qlr _) (QX (qRr) (Vx (KB λh=>Q7 λg=>?_) (KB λh=>Q7 λg=>?_)))))))))
 .exact KT ⟨rfl,rfl⟩ rfl
 .exact KT ⟨rfl,by show(-1:Int)=Kq (QN (VC l) l.n 0);rw[h];rfl⟩ rfl
theorem QWj:QO prog 154 QJq:=
 JI (QL Gh) func154 (by kernel_rfl) (by kernel_rfl) (by decide) QaL QeQ
def qA:Tab:=Qh ZK 154 QJq
theorem QF7:QZ qA:=Gh.add QWj
def QAW:WF ((Rw Edge)×(FnK 133)×Unit):=λ|(l,(x,_))=>(decide (l.n<=1000),.bool false (decide (Kq (QN (VC l) l.n 0)≥0)),[])
def QJl:FC:=wFC QAW
theorem QXZ(l:(Rw Edge))(x:(FnK 133)):KI (mkE prog qA) (hnd (mkE prog qA) 0) f132 (QW.vals 0 ((l,x,()):(Rw Edge)×(FnK 133)×Unit)) (QW.blks 0 ((l,x,()):(Rw Edge)×(FnK 133)×Unit)) 8=QE.need (decide (l.n<=l.n)&&(true&&true)&&decide (l.n<=(1000:Nat))) (QE.leaf (AV.bool false (decide (Kq (QN (VC l) l.n (0:Nat))≥(0:Int)))) ([])):=by kernel_rfl
theorem Qfw:JG (mkE prog qA) (Qi f132) 8 QAW (λx_=>(hnd (mkE prog qA) 0)):=by
 refine⟨?_⟩;rintro⟨l,⟨x,⟨⟩⟩⟩ hp G h1 h2;exact Qw (QL QF7) 0 G _ h1
theorem Qgr:JF (mkE prog qA) f132 8 QAW (λx_=>(hnd (mkE prog qA) 0)):=by
 refine⟨?_⟩;rintro⟨l,⟨x,⟨⟩⟩⟩ hp;refine⟨⟨rfl,by simp[QAW],rfl⟩,⟨?_⟩⟩
 rw[QXZ l x];simp only[QAW]at hp;exact QF (by simpa using hp) (KT rfl rfl)
theorem QUo:QO prog 132 QJl:=
 JI (QL QF7) func132 (by kernel_rfl) (by kernel_rfl) (by decide) Qfw Qgr
def qu:Tab:=Qh qA 132 QJl
theorem QHx:QZ qu:=QF7.add QUo
theorem QHf:∀(o:Option Nat),(!decide (Kq o≥0))=o.isNone
 | some i=>by simp[Kq]
 | none=>rfl
def QAs:WF ((Rw Edge)×Unit):=λ|(l,_)=>(decide (l.n<=1000),.bool false (ZO (λi=>(l.get i).ok) l.n),[])
def QKZ:FC:=wFC QAs
theorem QcX(l:(Rw Edge)):KI (mkE prog qu) (hnd (mkE prog qu) 0) f102 (QW.vals 0 ((l,()):(Rw Edge)×Unit)) (QW.blks 0 ((l,()):(Rw Edge)×Unit)) 8=QE.need (decide (l.n<=l.n)&&(true&&true)&&decide (l.n<=(1000:Nat))) (QE.leaf (AV.bool false !decide (Kq (QN (VC l) l.n (0:Nat))≥(0:Int))) ([])):=by kernel_rfl
theorem QVk:JG (mkE prog qu) (Qi f102) 8 QAs (λx_=>(hnd (mkE prog qu) 0)):=by
 refine⟨?_⟩;rintro⟨l,⟨⟩⟩ hp G h1 h2;exact Qw (QL QHx) 0 G _ h1
theorem Qcj:JF (mkE prog qu) f102 8 QAs (λx_=>(hnd (mkE prog qu) 0)):=by
 refine⟨?_⟩;rintro⟨l,⟨⟩⟩ hp;refine⟨⟨rfl,by simp[QAs],rfl⟩,⟨?_⟩⟩
 rw[QcX l];simp only[QAs]at hp;exact QF (by simpa using hp) (KT (QHf _) rfl)
theorem Qeu:QO prog 102 QKZ:=
 JI (QL QHx) func102 (by kernel_rfl) (by kernel_rfl) (by decide) QVk Qcj
def Xx:Tab:=Qh qu 102 QKZ
theorem QAY:QZ Xx:=QHx.add Qeu
def KF{α:Type}[QA α](ty k:Nat)(l:List α)(d:α):Nat×Blk:=(k,.rowz true ty (QA.ks α) l.length λi=>QA.enc (l.getD i d))
def K9(q:Nat->Bool):Nat->List Int
 | 0=>[]
 | k+1=>match q k with
  | true=>K9 q k++[(k:Int)]
  | false=>K9 q k
theorem QMC(q:Nat->Bool):∀ k,(K9 q k).length<=k
 | 0=>qlr _
 | k+1=>by
  have:=QMC q k;simp only[K9];split<;>simp<;>omega
def JS(l:Rw Edge)(i:Nat):Bool:=decide (Wa p s (l.get i)≥least)
def Wr(l:Rw Edge)(o:List Int)(k:Int):JSt:=
 ⟨30,[(2,.int false .i64 least),(4,.ptr 8 0 0),(5,.ptr 16 0 0),(8,.slz 24 0 o.length (.of 0)),(11,.slz 3 0 l.n (.of 0)),(12,.int false .i64 l.n),(13,.int false .i64 k)],
  [(8,.cells 0 25 (Enc.enc p).cells),(16,.cells 0 66 (Enc.enc s).cells),KF 3 24 o 0]++KD.blk 3 l,32⟩
def QRm:Ex->List Nat
 | .normal=>[2,4,5,8,11,12,13]
 | _=>[8]
noncomputable abbrev QMl:Nat×Blk:=
  (8,.cells 0 25 [vi p.length,vi p.aK,vi p.oK,vi p.dK.lo,vi p.dK.hi])
noncomputable abbrev QL2:Nat×Blk:=
  (16,.cells 0 66 [vi s.kind,vi s.at_.lo,vi s.at_.hi,vi s.wide.lo,vi s.wide.hi,vi s.deep.lo,.int
  false .i64 s.deep.hi])
noncomputable abbrev QPw:Nat×Blk:=
  (3,.frz [.int .i64,.int .i64,.int .i64,.int .i64,.int .i64,.int .i64,.int .i64] l.n λi=>QA.enc (l.get i))
theorem Qf4(l:Rw Edge)(o:List Int)(k:Nat)(g:Nat->Value):exec (mkE prog Xx) (hnd (mkE prog Xx) 0) (QT f138 0) (JSt.inst (Wr p s least l o k) g) (KG [] QRm) = .br (decide ((k:Int)<(l.n:Int))) (.need (decide ((0:Int)<=(k:Int)/\(k:Int)<(l.n:Int))&&decide (l.n<=l.n)) (.need (decide (k<l.n)) (.need (okP p s (l.get k)) (.br (decide (Wa p s (l.get k) ≥ least)) (.need (decide (o.length<=o.length)&&(true&&decide ((o.length+1+(o.length+1) / 4+192)*8<=281474976710656/\o.length+1<=9223372036854775807))) (.leaf (.tup [.nilp,.ptr 30 0 0,vi least,.ptr 8 0 0,.ptr 16 0 0,.slz 160 0 (o.length+1) cO,.slz 3 0 l.n cO,vi (l.n:Int),vi (i64.wrap ((k:Int)+1))]) ([(QMl p),(QL2 s),(160,.rowz true 3 [.int .i64] (o.length+1) (Qa o.length (λi=>QA.enc (o.getD i 0)) (QU [[vi (k:Int)]] 0))),(QPw l)]))) (.leaf (.tup [.nilp,.ptr 30 0 0,vi least,.ptr 8 0 0,.ptr 16 0 0,.slz 24 0 o.length cO,.slz 3 0 l.n cO,vi (l.n:Int),vi (i64.wrap ((k:Int)+1))]) ([(QMl p),(QL2 s),(24,.rowz true 3 [.int .i64] o.length λi=>QA.enc (o.getD i 0)),(QPw l)])))))) (.leaf (.tup [.ptr 0 0 0,.ptr 30 0 0,.slz 24 0 o.length cO]) ([(24,.rowz true 3 [.int .i64] o.length λi=>QA.enc (o.getD i 0))])):=by kernel_rfl
theorem Qev(x:Int):QC 1 (o++[x]).length (Qa o.length (λi=>QA.enc (o.getD i 0)) (QU [[AV.int false i64 x]] 0)) (λi=>QA.enc ((o++[x]).getD i 0)):=by
 intro i hi;refine⟨?_,trivial⟩;rw[Vb];rw[List.length_append,List.length_singleton]at hi;split
 .rename_i h;show o.getD i 0=(o++[x]).getD i 0;rw[List.getD_eq_getElem?_getD,List.getD_eq_getElem?_getD,List.getElem?_append_left h]
 .rename_i h;have:i=o.length:=by omega
  subst this;show x=(o++[x]).getD o.length 0;simp
theorem QTX(l:Rw Edge)(n:Nat)(g:Nat->Nat->Int)(i:Int)(o:List Int)(k:Int):QI 8 [vi least,.ptr 8 0 0,.ptr 16 0 0,.slz 24 0 n cO,.slz 3 0 l.n cO,vi l.n,vi i] ([(8,.cells 0 25 (Enc.enc p).cells),(16,.cells 0 66 (Enc.enc s).cells),(24,.rowz true 3 [.int .i64] n g)]++KD.blk 3 l) (Wr p s least l o k)=( some [least=least,0=0,0=0,0=0,0=0,0=0,n=o.length,cO=cO,0=0,l.n=l.n,cO=cO,(↑l.n:Int)=(↑l.n:Int),i=k,p.length=p.length,p.aK=p.aK,p.oK=p.oK,p.dK.lo=p.dK.lo,p.dK.hi=p.dK.hi,s.kind=s.kind,s.at_.lo=s.at_.lo,s.at_.hi=s.at_.hi,s.wide.lo=s.wide.lo,s.wide.hi=s.wide.hi,s.deep.lo=s.deep.lo,s.deep.hi=s.deep.hi,o.length<=n,QC (1:Nat) o.length g λi=>QA.enc (o.getD i (0:Int)),l.n<=l.n,QC (7:Nat) l.n (λi=>QA.enc (l.get i)) λi=>QA.enc (l.get i)]):=by kernel_rfl
theorem QUU(l:Rw Edge)(n:Nat)(g:Nat->Nat->Int)(i:Int)(o:List Int)(k:Int):QI 8 [vi least,.ptr 8 0 0,.ptr 16 0 0,.slz 160 0 n cO,.slz 3 0 l.n cO,vi l.n,vi i] ([(8,.cells 0 25 (Enc.enc p).cells),(16,.cells 0 66 (Enc.enc s).cells),(160,.rowz true 3 [.int .i64] n g)]++KD.blk 3 l) (Wr p s least l o k)=( some [least=least,0=0,0=0,0=0,0=0,0=0,n=o.length,cO=cO,0=0,l.n=l.n,cO=cO,(↑l.n:Int)=(↑l.n:Int),i=k,p.length=p.length,p.aK=p.aK,p.oK=p.oK,p.dK.lo=p.dK.lo,p.dK.hi=p.dK.hi,s.kind=s.kind,s.at_.lo=s.at_.lo,s.at_.hi=s.at_.hi,s.wide.lo=s.wide.lo,s.wide.hi=s.wide.hi,s.deep.lo=s.deep.lo,s.deep.hi=s.deep.hi,o.length<=n,QC (1:Nat) o.length g λi=>QA.enc (o.getD i (0:Int)),l.n<=l.n,QC (7:Nat) l.n (λi=>QA.enc (l.get i)) λi=>QA.enc (l.get i)]):=by kernel_rfl
def zG:JSt:=⟨30,[(8,.slz 24 0 o.length (.of 0))],[KF 3 24 o 0],32⟩
theorem Qdp(n:Nat)(g:Nat->Nat->Int)(o:List Int):QI 8 [.slz 24 0 n cO] [(24,.rowz true 3 [.int .i64] n g)] (zG o)=( some [0=0,n=o.length,cO=cO,o.length<=n,QC (1:Nat) o.length g λi=>QA.enc (o.getD i (0:Int))]):=by kernel_rfl
def QGB:Prop:=p.ok=true/\s.ok=true/\ZO (λi=>(l.get i).ok) l.n=true/\l.n<=1000
theorem QYD(l:Rw Edge)(hl:QGB p s l):Kk (λk:Nat=>Wr p s least l (K9 (JS p s least l) k) k) (λk=>k<=l.n) (λk=>l.n-k) (λ_ e J=>e = .exit 0/\J=zG (K9 (JS p s least l) l.n)) 8 QRm [] (mkE prog Xx) (λ_=>hnd (mkE prog Xx) 0) (QT f138 0):=by
 obtain⟨h1,h2,h3,h4⟩:=hl;refine⟨λk g hk=>⟨QAz (Qf4 p s least l _ k g) ?_⟩⟩;have hlen:=QMC (JS p s least l) k;refine QH ?_ ?_<;>intro h
 .have h:k<l.n:=by have:=qdt h;omega
  have hw:i64.wrap ((k:Int)+1)=((k+1:Nat):Int):=(w64 (by omega) (by omega)).trans (by omega)
  refine QF (by simp;omega) (QF (by simp;omega) (QF (by simp only[okP,h1,h2,QYT h3 h];rfl) (QH (λhb=>?_) (λhb=>?_))))
  .have e:K9 (JS p s least l) (k+1)=K9 (JS p s least l) k++[(k:Int)]:=by simp only[K9,JS];rw[hb]
   refine QF (by simp;omega) ⟨k+1,h,by show l.n-(k+1)<l.n-k;omega,λ_ _ h=>h,rfl,rfl,_,QUU _ _ _ _ _ _ _ _ _,?_⟩
   rw[e]
   repeat' first|exact tv|exact hw|refine aI ?_ ?_
   .simp
   .simp
   .exact Qev _ _
  .have e:K9 (JS p s least l) (k+1)=K9 (JS p s least l) k:=by simp only[K9,JS];rw[hb]
   refine⟨k+1,h,by show l.n-(k+1)<l.n-k;omega,λ_ _ h=>h,rfl,rfl,_,QTX _ _ _ _ _ _ _ _ _,?_⟩
   rw[e]
   repeat' first|exact tv|exact hw|refine aI ?_ ?_
 .have:k=l.n:=by have:=qdf h;omega
  subst this;refine⟨_,⟨rfl,rfl⟩,rfl,rfl,_,Qdp _ _ _,?_⟩
  repeat' first|exact tv|refine aI ?_ ?_
theorem QVa(l:Rw Edge)(hl:QGB p s l)(G:Ctx)(hrd:G.rd=none)(hG:G.n=8):Q8 (mkE prog Xx) G { hnd (mkE prog Xx) 1 with loop:=λ_=>Q4 8 [] (Wr p s least l [] (0:Nat)) [(True,.exit 0,zG (K9 (JS p s least l) l.n))] } (Qi f138):=by
 refine Kg (body:=QT f138 0) (QL QAY) hrd (by kernel_rfl) ?_
 refine Kr (n0:=8) (QL QAY) (by omega) (λs hs=>Qw (QL QAY) 0 G _ hrd) (λs hs=>(by decide:8<=32)) ?_ (QYD p s least l hl) (s0:=0) (Nat.zero_le _) ?_
 .rintro s e J ⟨_,rfl⟩;exact(by decide:8<=32)
 .rintro e J ⟨rfl,rfl⟩;exact⟨_,qmc,trivial,rfl,rfl⟩
theorem QYB:QI 8 [.slz 24 0 o.length cO] [(24,.rowz true 3 [.int .i64] o.length λi=>QA.enc (o.getD i 0))] (KY 8 (.slz 0 0 o.length cO) [KF 3 0 o 0])=( some [0=0,o.length=o.length,cO=cO,o.length<=o.length,QC (1:Nat) o.length (λi=>QA.enc (o.getD i (0:Int))) λi=>QA.enc (o.getD i (0:Int))]):=by kernel_rfl
def zf:WF (Qz×Edge×Int×(Rw Edge)×Unit):=λ|(p,(s,(least,(l,_))))=>(p.ok&&s.ok&&ZO (λi=>(l.get i).ok) l.n&&decide (l.n<=1000),.slz 0 0 (K9 (JS p s least l) l.n).length (.of 0),[KF 3 0 (K9 (JS p s least l) l.n) 0])
def QM5:FC:=wFC zf
theorem QUS(l:(Rw Edge)):KI (mkE prog Xx) { hnd (mkE prog Xx) 1 with loop:=λ_=>Q4 8 [] (Wr p s least l [] (0:Nat)) [(True,.exit 0,zG (K9 (JS p s least l) l.n))] } f138 (QW.vals 0 ((p,s,least,l,()):Qz×Edge×Int×(Rw Edge)×Unit)) (QW.blks 0 ((p,s,least,l,()):Qz×Edge×Int×(Rw Edge)×Unit)) 8 = .ak [least=least,0=0,0=0,0=0,0=0,0=0,0=0,l.n=l.n,cO=cO,(l.n:Int)=(l.n:Int),(0:Int)=0,p.length=p.length,p.aK=p.aK,p.oK=p.oK,p.dK.lo=p.dK.lo,p.dK.hi=p.dK.hi,s.kind=s.kind,s.at_.lo=s.at_.lo,s.at_.hi=s.at_.hi,s.wide.lo=s.wide.lo,s.wide.hi=s.wide.hi,s.deep.lo=s.deep.lo,s.deep.hi=s.deep.hi,0=0,l.n<=l.n,QC 7 l.n (λi=>QA.enc (l.get i)) λi=>QA.enc (l.get i)] (.asm (True) (.all (λ(g0:Nat->Value)=>.leaf (.slz 24 0 (K9 (JS p s least l) l.n).length cO) ([(24,.rowz true 3 [.int .i64] (K9 (JS p s least l) l.n).length λi=>QA.enc ((K9 (JS p s least l) l.n).getD i 0))])))):=by kernel_rfl
theorem QYz:JG (mkE prog Xx) (Qi f138) 8 zf (λx_=>{ hnd (mkE prog Xx) 1 with loop:=λ_=>Q4 8 [] (Wr x_.1 x_.2.1 x_.2.2.1 x_.2.2.2.1 [] (0:Nat)) [(True,.exit 0,zG (K9 (JS x_.1 x_.2.1 x_.2.2.1 x_.2.2.2.1) x_.2.2.2.1.n))] }):=by
 refine⟨?_⟩;rintro⟨p,⟨s,⟨least,⟨l,⟨⟩⟩⟩⟩⟩ hp G h1 h2;exact QVa p s least l (by simpa[zf,QGB,and_assoc]using hp) G h1 h2
theorem Qfu:JF (mkE prog Xx) f138 8 zf (λx_=>{ hnd (mkE prog Xx) 1 with loop:=λ_=>Q4 8 [] (Wr x_.1 x_.2.1 x_.2.2.1 x_.2.2.2.1 [] (0:Nat)) [(True,.exit 0,zG (K9 (JS x_.1 x_.2.1 x_.2.2.1 x_.2.2.2.1) x_.2.2.2.1.n))] }):=by
 refine⟨?_⟩;rintro⟨p,⟨s,⟨least,⟨l,⟨⟩⟩⟩⟩⟩ hp;refine⟨⟨rfl,by simp[zf,KF,Blk.own,Blk.all],rfl⟩,⟨?_⟩⟩
 rw[QUS p s least l];simp only[zf]at hp
 repeat' first|refine QX (by with_reducible rfl) ?_|refine QX (qlr _) ?_|refine QX (qRr) ?_
 refine KB λ_=>Q7 λg=>⟨rfl,rfl,_,QYB _,?_⟩
 repeat' first|exact tv|refine aI ?_ ?_
theorem QYV:QO prog 138 QM5:=
 JI (QL QAY) func138 (by kernel_rfl) (by kernel_rfl) (by decide) QYz Qfu
def Wq:Tab:=Qh Xx 138 QM5
theorem QG0:QZ Wq:=QAY.add QYV
def Xr:Bool:=p.ok&&(s.ok&&ZO (λi=>(l.get i).ok) l.n)
def Y4:Int:=match Xr p s l with
 | true=>(match decide (l.n>40)with|true=>3|false=>0)
 | false=>1
def Vg(l:Rw Edge):List Int:=match Xr p s l&&decide (l.n<=40)with
 | true=>K9 (JS p s least l) l.n
 | false=>[]
theorem QeU(e f:Int)(o q:List Int):QI 8 [.tup [.nils,.nils,vj e]] [] (KY 8 (.tup [.slz 0 0 o.length cO,.slz 1 0 q.length cO,vi f]) [KF 3 0 o 0,KF 3 1 q 0])=( some [o.length=(0:Nat),q.length=(0:Nat),e=f,o.length=(0:Nat),q.length=(0:Nat)]):=by kernel_rfl
theorem QbS(n m:Nat)(g h:Nat->Nat->Int)(e f:Int)(o q:List Int):QI 8 [.tup [.slz 216 0 n cO,.slz 248 0 m cO,vj e]] [(216,.rowz true 3 [.int .i64] n g),(248,.rowz true 3 [.int .i64] m h)] (KY 8 (.tup [.slz 0 0 o.length cO,.slz 1 0 q.length cO,vi f]) [KF 3 0 o 0,KF 3 1 q 0])=( some [0=0,n=o.length,cO=cO,0=0,m=q.length,cO=cO,e=f,o.length<=n,QC (1:Nat) o.length g λi=>QA.enc (o.getD i (0:Int)),q.length<=m,QC (1:Nat) q.length h λi=>QA.enc (q.getD i (0:Int))]):=by kernel_rfl
def vU:WF (Qz×Edge×(Rw Edge)×Unit):=λ|(p,(s,(l,_)))=>(decide (l.n<=1000),.tup [.slz 0 0 (Vg p s 2 l).length (.of 0),.slz 1 0 (Vg p s 1 l).length (.of 0),.int false .i64 (Y4 p s l)],[KF 3 0 (Vg p s 2 l) 0,KF 3 1 (Vg p s 1 l) 0])
def QNL:FC:=wFC vU
theorem Qgo(l:(Rw Edge)):KI (mkE prog Wq) (hnd (mkE prog Wq) 0) f106 (QW.vals 0 ((p,s,l,()):Qz×Edge×(Rw Edge)×Unit)) (QW.blks 0 ((p,s,l,()):Qz×Edge × (Rw Edge)×Unit)) 8 = .need (true) (.br (!p.ok) (.leaf (.tup [.nils,.nils,vj 1]) ([])) (.need (true) (.br (!s.ok) (.leaf (.tup [.nils,.nils,vj 1]) ([])) (.need (decide (l.n<=l.n)&&true&&decide (l.n<=1000)) (.br (!ZO (λi=>(l.get i).ok) l.n) (.leaf (.tup [.nils,.nils,vj 1]) ([])) (.br (decide ((l.n:Int)>40)) (.leaf (.tup [.nils,.nils,vj 3]) ([])) (.need (true&&(true&&(true&&(decide (l.n<=l.n)&&true)))&&(p.ok&&s.ok&&ZO (λi=>(l.get i).ok) l.n&&decide (l.n<=1000))) (.need (true&&(true&&(true&&(decide (l.n<=l.n)&&true)))&&(p.ok&&s.ok&&ZO (λi=>(l.get i).ok) l.n&&decide (l.n<=1000))) (.leaf (.tup [.slz 216 0 (K9 (JS p s (2:Int) l) l.n).length cO,.slz 248 0 (K9 (JS p s (1:Int) l) l.n).length cO,vj 0]) ([(216,.rowz true 3 [.int .i64] (K9 (JS p s (2:Int) l) l.n).length λi=>QA.enc ((K9 (JS p s (2:Int) l) l.n).getD i 0)),(248,.rowz true 3 [.int .i64] (K9 (JS p s (1:Int) l) l.n).length λi=>QA.enc ((K9 (JS p s (1:Int) l) l.n).getD i 0))])))))))))):=by kernel_rfl
theorem QUL:JG (mkE prog Wq) (Qi f106) 8 vU (λx_=>(hnd (mkE prog Wq) 0)):=by
 refine⟨?_⟩;rintro⟨p,⟨s,⟨l,⟨⟩⟩⟩⟩ hp G h1 h2;exact Qw (QL QG0) 0 G _ h1
theorem QYe:JF (mkE prog Wq) f106 8 vU (λx_=>(hnd (mkE prog Wq) 0)):=by
 refine⟨?_⟩;rintro⟨p,⟨s,⟨l,⟨⟩⟩⟩⟩ hp;refine⟨⟨rfl,by simp[vU,KF,Blk.own,Blk.all],rfl⟩,⟨?_⟩⟩
 rw[Qgo p s l];simp only[vU]at hp;have hn:l.n<=1000:=qdt hp
 have no:∀ e:Int,Vg p s 2 l=[]->Vg p s 1 l=[]->Y4 p s l=e->(QE.leaf (AV.tup [AV.nils,AV.nils,AV.int true i64 e]) []).den (VQ 8 (vU (p,s,l,())).2.1 (vU (p,s,l,())).2.2):=by
  intro e h1 h2 h3;refine⟨rfl,rfl,_,QeU _ _ _ _,?_⟩;rw[h1,h2,h3];exact⟨rfl,rfl,rfl,rfl,rfl,trivial⟩
 refine QF rfl (QH (λh=>?_) (λh=>QF rfl (QH (λh2=>?_) (λh2=>QF (by simpa using hn) (QH (λh3=>?_) (λh3=>QH (λh4=>?_) (λh4=>?_)))))))
 .have e:Xr p s l=false:=by simp[Xr]at h ⊢;simp[h]
  exact no 1 (by simp[Vg,e]) (by simp[Vg,e]) (by simp[Y4,e])
 .have e:Xr p s l=false:=by simp[Xr]at h2 ⊢;simp[h2]
  exact no 1 (by simp[Vg,e]) (by simp[Vg,e]) (by simp[Y4,e])
 .have e:Xr p s l=false:=by simp[Xr]at h3 ⊢;simp[h3]
  exact no 1 (by simp[Vg,e]) (by simp[Vg,e]) (by simp[Y4,e])
 .have h4:l.n>40:=by have:=qdt h4;omega
  have e1:decide (l.n>40)=true:=qde h4;have e2:decide (l.n<=40)=false:=decide_eq_false (by omega)
  have e:Xr p s l=true:=by simp[Xr]at h h2 h3 ⊢;exact⟨h,h2,h3⟩
  exact no 3 (by simp only[Vg,e,e2];rfl) (by simp only[Vg,e,e2];rfl) (by simp only[Y4,e,e1])
 .have h4:¬ l.n>40:=by have:=qdf h4;omega
  have e1:decide (l.n>40)=false:=decide_eq_false h4;have e2:decide (l.n<=40)=true:=qde (by omega)
  have e:Xr p s l=true:=by simp[Xr]at h h2 h3 ⊢;exact⟨h,h2,h3⟩
  have hq:(p.ok&&s.ok&&ZO (λi=>(l.get i).ok) l.n&&decide (l.n<=1000))=true:=by simp at h h2 h3;simp[h,h2,h3,hn]
  refine QF (by simp only[hq];simp) (QF (by simp only[hq];simp) ⟨rfl,rfl,_,QbS _ _ _ _ _ _ _ _,?_⟩)
  have k2:Vg p s 2 l=K9 (JS p s 2 l) l.n:=by simp only[Vg,e,e2];rfl
  have k1:Vg p s 1 l=K9 (JS p s 1 l) l.n:=by simp only[Vg,e,e2];rfl
  have k3:Y4 p s l=0:=by simp only[Y4,e,e1]
  rw[k1,k2,k3]
  repeat' first|exact tv|refine aI ?_ ?_
theorem QTD:QO prog 106 QNL:=
 JI (QL QG0) func106 (by kernel_rfl) (by kernel_rfl) (by decide) QUL QYe
def QDF:Tab:=Qh Wq 106 QNL
theorem QSA:QZ QDF:=QG0.add QTD
def com(x y:Sp):Bool:=decide (x.lo<=y.hi)&&decide (y.lo<=x.hi)
def isF(b s:Edge):Bool:=(b.kind==s.kind)&&(com b.at_ s.at_&&(com b.wide s.wide&&com b.deep s.deep))
def QQN:Edge×Edge×Unit->Bool×AV:=λ|(b,(s,_))=>(true,.bool false (isF b s))
def QJ4:FC:=KM (KN QQN)
theorem Qd8(b:Edge)(s:Edge):KJ (mkE prog QDF) (hnd (mkE prog QDF) 3) false f182 (Q3.enc ((b,s,()):Edge×Edge×Unit)) [] 0=QE.br (b.kind==s.kind) (QE.br (decide (b.at_.lo<=s.at_.hi)) (QE.br (decide (s.at_.lo<=b.at_.hi)) (QE.br (decide (b.wide.lo<=s.wide.hi)) (QE.br (decide (s.wide.lo<=b.wide.hi)) (QE.br (decide (b.deep.lo<=s.deep.hi)) (QE.leaf (AV.bool false (decide (s.deep.lo<=b.deep.hi))) ([])) (QE.leaf (AV.bool true false) ([]))) (QE.leaf (AV.bool true false) ([]))) (QE.leaf (AV.bool true false) ([]))) (QE.leaf (AV.bool true false) ([]))) (QE.leaf (AV.bool true false) ([]))) (QE.leaf (AV.bool true false) ([])):=by kernel_rfl
theorem QWw:QO prog 182 QJ4:=by
 refine KZ QSA 3 func182 (by kernel_rfl) (by kernel_rfl) ?_
 rintro⟨b,s,⟨⟩⟩ hp;rw[Qd8 b s];simp only[QQN,QE.den,AV.same,AV.sameL,and_true,true_and]at hp ⊢;simp only[isF,com];generalize (b.kind==s.kind)=x1;generalize decide (b.at_.lo<=s.at_.hi)=x2
 generalize decide (s.at_.lo<=b.at_.hi)=x3
 generalize decide (b.wide.lo<=s.wide.hi)=x4;generalize decide (s.wide.lo<=b.wide.hi)=x5;generalize decide (b.deep.lo<=s.deep.hi)=x6;generalize decide (s.deep.lo<=b.deep.hi)=x7;cases x1<;>cases x2<;>cases x3<;>cases x4<;>cases x5<;>cases x6<;>cases x7<;>simp
def Xi:Tab:=Qh QDF 182 QJ4
theorem Hh:QZ Xi:=QSA.add QWw
structure QQ where
 up:Edge
 right:Edge
 down:Edge
 left:Edge
def QQ.ok(p:QQ):Bool:=p.up.ok&&(p.right.ok&&(p.down.ok&&p.left.ok))
instance : QA QQ where
  ks := [.int .i64,.int .i64,.int .i64,.int .i64,.int .i64,.int .i64,.int .i64,.int .i64,.int .i64,.int .i64,.int .i64,.int .i64,.int .i64,.int .i64,.int .i64,.int .i64,.int .i64,.int .i64,.int .i64,.int .i64,.int .i64,.int .i64,.int .i64,.int .i64,.int .i64,.int .i64,.int .i64,.int .i64]
  enc p j := match j with
    | 0 => p.up.kind
    | 1 => p.up.at_.lo
    | 2 => p.up.at_.hi
    | 3 => p.up.wide.lo
    | 4 => p.up.wide.hi
    | 5 => p.up.deep.lo
    | 6 => p.up.deep.hi
    | 7 => p.right.kind
    | 8 => p.right.at_.lo
    | 9 => p.right.at_.hi
    | 10 => p.right.wide.lo
    | 11 => p.right.wide.hi
    | 12 => p.right.deep.lo
    | 13 => p.right.deep.hi
    | 14 => p.down.kind
    | 15 => p.down.at_.lo
    | 16 => p.down.at_.hi
    | 17 => p.down.wide.lo
    | 18 => p.down.wide.hi
    | 19 => p.down.deep.lo
    | 20 => p.down.deep.hi
    | 21 => p.left.kind
    | 22 => p.left.at_.lo
    | 23 => p.left.at_.hi
    | 24 => p.left.wide.lo
    | 25 => p.left.wide.hi
    | 26 => p.left.deep.lo
    | _ => p.left.deep.hi
  dec f := ⟨⟨f 0,⟨f 1,f 2⟩,⟨f 3,f 4⟩,⟨f 5,f 6⟩⟩,⟨f 7,⟨f 8,f 9⟩,⟨f 10,f 11⟩,⟨f 12,f 13⟩⟩,⟨f 14,⟨f 15,f 16⟩,⟨f 17,f 18⟩,⟨f 19,f 20⟩⟩,⟨f 21,⟨f 22,f 23⟩,⟨f 24,f 25⟩,⟨f 26,f 27⟩⟩⟩
  ok _ := rfl
instance : Enc QQ where
  enc p := .agg [.int false .i64 p.up.kind,.int false .i64 p.up.at_.lo,.int false .i64 p.up.at_.hi,.int false .i64 p.up.wide.lo,.int false .i64 p.up.wide.hi,.int false .i64 p.up.deep.lo,.int false .i64 p.up.deep.hi,.int false .i64 p.right.kind,.int false .i64 p.right.at_.lo,.int false .i64 p.right.at_.hi,.int false .i64 p.right.wide.lo,.int false .i64 p.right.wide.hi,.int false .i64 p.right.deep.lo,.int false .i64 p.right.deep.hi,.int false .i64 p.down.kind,.int false .i64 p.down.at_.lo,.int false .i64 p.down.at_.hi,.int false .i64 p.down.wide.lo,.int false .i64 p.down.wide.hi,.int false .i64 p.down.deep.lo,.int false .i64 p.down.deep.hi,.int false .i64 p.left.kind,.int false .i64 p.left.at_.lo,.int false .i64 p.left.at_.hi,.int false .i64 p.left.wide.lo,.int false .i64 p.left.wide.hi,.int false .i64 p.left.deep.lo,.int false .i64 p.left.deep.hi]
  dec
    | .agg [.int _ .i64 a0,.int _ .i64 a1,.int _ .i64 a2,.int _ .i64 a3,.int _ .i64 a4,.int _ .i64 a5,.int _ .i64 a6,.int _ .i64 a7,.int _ .i64 a8,.int _ .i64 a9,.int _ .i64 a10,.int _ .i64 a11,.int _ .i64 a12,.int _ .i64 a13,.int _ .i64 a14,.int _ .i64 a15,.int _ .i64 a16,.int _ .i64 a17,.int _ .i64 a18,.int _ .i64 a19,.int _ .i64 a20,.int _ .i64 a21,.int _ .i64 a22,.int _ .i64 a23,.int _ .i64 a24,.int _ .i64 a25,.int _ .i64 a26,.int _ .i64 a27] => some ⟨⟨a0,⟨a1,a2⟩,⟨a3,a4⟩,⟨a5,a6⟩⟩,⟨a7,⟨a8,a9⟩,⟨a10,a11⟩,⟨a12,a13⟩⟩,⟨a14,⟨a15,a16⟩,⟨a17,a18⟩,⟨a19,a20⟩⟩,⟨a21,⟨a22,a23⟩,⟨a24,a25⟩,⟨a26,a27⟩⟩⟩
    | _ => none
  ok v x h := by
    split at h <;> (try (cases h; done))
    simp only[qsI]at h; subst h;exact⟨λ_=>rfl,rfl⟩
structure Puz where
 pK:Qz
 wide:Int
 high:Int
 turn:Bool
 ps:Rw QQ
instance : KD Puz where
  val k x := .agg [.int false .i64 x.pK.length,.int false .i64 x.pK.aK,.int false .i64 x.pK.oK,.int false .i64 x.pK.dK.lo,.int false .i64 x.pK.dK.hi,.int false .i64 x.wide,.int false .i64 x.high,.bool false x.turn,KD.val k x.ps]
  blk k x := KD.blk k x.ps
  dec v lk := match v with
    | .agg [.int _ .i64 a,.int _ .i64 b,.int _ .i64 c,.int _ .i64 d,.int _ .i64 e,.int _ .i64 f,.int _ .i64 g,.bool _ t,s] => (match (KD.dec s lk : Option (Bool × Rw QQ))with
      | some (p,x) => some (p,⟨⟨a,b,c,⟨d,e⟩⟩,f,g,t,x⟩)
      | none => none)
    | _ => none
  ok v lk p x h hp := by
    split at h <;> (try (cases h; done))
    split at h <;> (try (cases h; done))
    rename_i a b c d e f g t s p' x' hd;simp only[qsI,qpI]at h;obtain⟨rfl,rfl⟩ := h;obtain⟨h1,h2⟩ := KD.ok _ _ _ _ hd hp;refine⟨λk=>⟨?_,(h1 k).2⟩,λr w hb=>?_⟩
    . have := (h1 k).1
      simp only[AV.all,AV.allL,Bool.true_and,Bool.and_true]; exact this
    . obtain⟨l,hl⟩ := h2 r w hb
      refine⟨l,λk r' hr=>⟨?_,(hl k r' hr).2⟩⟩;have := (hl k r' hr).1;simp only[AV.den,AV.denL]at this ⊢;rw[this]
def QSg:AV->Bool
 | .agg _=>true
 | _=>false
theorem QgU{v:AV}(h:QSg v=true):∃ l,v = .agg l:=by
 cases v<;>first|(cases h;done)|exact⟨_,rfl⟩
structure FnC (α:Type) (g ty:Nat) where
 x:α
instance {α : Type} [Enc α] (g ty : Nat) : KD (FnC α g ty) where
  val k _ := .fn (.func g) [.ptr k 0 0]
  blk k x := [(k,.cellsR 0 ty (Enc.enc x.x).cells)]
  dec v lk := match v with
    | .fn (.func g') [.ptr id e j] => (match Nat.beq g' g && (Nat.beq e 0 && Nat.beq j 0)with
      | true => (match lk id with
        | some (.cellsR z ty' l) => (match Nat.beq ty' ty && Nat.beq z 0 with
          | true => (match (Enc.dec (.agg l) : Option α)with
            | some a => (match QSg (Enc.enc a)with | true => some (true,⟨a⟩) | false => none)
            | none => none)
          | false => none)
        | _ => none)
      | false => none)
    | _ => none
  ok v lk p x h _ := by
    split at h <;> (try (cases h; done))
    rename_i g' id e j;split at h <;> (try (cases h; done))
    rename_i hg;split at h <;> (try (cases h; done))
    rename_i z ty' l hlk;split at h <;> (try (cases h; done))
    rename_i hz;split at h <;> (try (cases h; done))
    rename_i a ha;split at h <;> (try (cases h; done))
    rename_i hagg;simp only[qbA]at hg hz;have hg1 := qnb hg.1;have he := qnb hg.2.1;have hj := qnb hg.2.2;have ht := qnb hz.1;have hz0 := qnb hz.2;subst hg1 he hj ht hz0;simp only[qsI,qpI]at h;obtain⟨_,rfl⟩ := h;obtain⟨k1,k2⟩ := Enc.ok _ _ ha;obtain⟨l',hl'⟩ := QgU hagg;rw[hl']at k1 k2;have hcl : (Enc.enc a).cells = l' := by rw[hl']; rfl
    have k3 : ∀ r,AV.denL r l' = AV.denL r l := λr=>by
      have := k1 r;simp only[AV.den,Value.agg.injEq]at this;exact Array.toList_inj.2 this |> λh=>by simpa using h
    refine⟨λk=>⟨by simp[AV.all,AV.allL],λq hq=>?_⟩,λr w hb=>⟨r id,λk r' hr=>⟨?_,λq hq=>?_⟩⟩⟩
    . simp only[List.mem_singleton]at hq; subst hq
      refine⟨rfl,rfl,?_⟩;show AV.allL _ (Enc.enc a).cells = true;rw[hcl]; exact k2
    . simp only[AV.den,AV.denL,hr]
    . simp only[List.mem_singleton]at hq; subst hq
      obtain⟨b1,b2,b3⟩ := hb _ _ hlk;refine⟨by rw[hr]; exact b1,by rw[hr]; exact b2,?_⟩
      show bk w (r' k).blk = some (.cells (AV.denL r' (Enc.enc a).cells).toArray _ _);rw[hr,hcl,denL_congr (p := λ_=>false) (r := r') (r' := r) (λ_ hf=>by cases hf) _ k2,k3 r]
      exact b3
abbrev VU:Type:=FnC Qz 105 25
def Ja:Edge:=⟨0,⟨0,0⟩,⟨0,0⟩,⟨0,0⟩⟩
def Jd(m:VU)(l:Rw QQ)(i:Nat):Bool := !(m.x.ok&&(l.get i).ok)
theorem QNI(x:QQ)(L:Rw Edge)(hn:L.n=4)(h0:L.get 0=x.up)(h1:L.get 1=x.right)(h2:L.get 2=x.down)(h3:L.get 3=x.left):(Y4 p Ja L != 0) = !(p.ok&&x.ok):=by
 have z:Ja.ok=true:=by decide
 have e:Xr p Ja L=(p.ok&&x.ok):=by
  simp only[Xr,z,ZO,QN,hn,h0,h1,h2,h3,QQ.ok,Bool.true_and];cases p.ok<;>cases x.up.ok<;>cases x.right.ok<;>cases x.down.ok<;>cases x.left.ok<;>rfl
 have d:decide (L.n>40)=false:=by rw[hn];rfl
 simp only[Y4,e,d];cases p.ok&&x.ok<;>rfl
def idp(l:Rw QQ)(m:VU):List (Nat×Blk):=KD.blk 0 l++KD.blk 1 m
def QBj(l:Rw QQ)(m:VU)(k:Nat):JSt:=⟨19,[(0,.slz 0 0 l.n (.of 0)),(1,KD.val 1 m),(7,.int false .i64 l.n),(8,.int false .i64 k)],idp l m,8⟩
noncomputable abbrev jK(l:Rw QQ):List AV:=
  [vi (l.get k).up.kind,vi (l.get k).up.at_.lo,vi (l.get k).up.at_.hi,vi (l.get k).up.wide.lo,vi (l.get
  k).up.wide.hi,vi (l.get k).up.deep.lo,vi (l.get k).up.deep.hi]
noncomputable abbrev jB(l:Rw QQ):List AV:=
  [vi (l.get k).right.kind,vi (l.get k).right.at_.lo,vi (l.get k).right.at_.hi,vi (l.get k).right.wide.lo,.int false .i64
  (l.get k).right.wide.hi,vi (l.get k).right.deep.lo,vi (l.get k).right.deep.hi]
noncomputable abbrev qv(l:Rw QQ):List AV:=
  [vi (l.get k).down.kind,vi (l.get k).down.at_.lo,vi (l.get k).down.at_.hi,vi (l.get k).down.wide.lo,vi (l.get
  k).down.wide.hi,vi (l.get k).down.deep.lo,vi (l.get k).down.deep.hi]
noncomputable abbrev vG(l:Rw QQ):List AV:=
  [vi (l.get k).left.kind,vi (l.get k).left.at_.lo,vi (l.get k).left.at_.hi,vi (l.get k).left.wide.lo,vi (l.get
  k).left.wide.hi,vi (l.get k).left.deep.lo,vi (l.get k).left.deep.hi]
theorem QWY(l:Rw QQ)(m:VU)(k:Nat)(g:Nat->Value):exec (mkE prog Xi) (hnd (mkE prog Xi) 4) (QT f137 0) (JSt.inst (QBj l m k) g) (KG [] zM) = .br (decide ((k:Int)<(l.n:Int))) (.need (decide ((0:Int)<=(k:Int)/\(k:Int)<(l.n:Int))&&decide (l.n<=l.n)) (.need (decide (k<l.n)) (.need (true&&(true&&(true&&true))&&decide (4<=1000)) (.br (Y4 m.x (Edge.mk (0:Int) (Sp.mk (0:Int) (0:Int)) (Sp.mk (0:Int) (0:Int)) (Sp.mk (0:Int) (0:Int))) (Rw.mk 4 λi=>Edge.mk (QU [(jK k l),(jB k l),(qv k l),(vG k l)] 0 i 0) (Sp.mk (QU [(jK k l),(jB k l),(qv k l),(vG k l)] 0 i 1) (QU [(jK k l),(jB k l),(qv k l),(vG k l)] 0 i 2)) (Sp.mk (QU [(jK k l),(jB k l), (qv k l),(vG k l)] 0 i 3) (QU [(jK k l),(jB k l),(qv k l),(vG k l)] 0 i 4)) (Sp.mk (QU [(jK k l),(jB k l),(qv k l),(vG k l)] 0 i 5) (QU [(jK k l), (jB k l),(qv k l),(vG k l)] 0 i 6))) != 0) (.leaf (.tup [.nili,.ptr 19 0 0,vi (k:Int)]) ([])) (.leaf (.tup [.nilp,.ptr 19 0 0,.slz 0 0 l.n cO,.fn (Fn.func 105) [.ptr 1 0 0],vi (l.n:Int),vi (i64.wrap ((k:Int)+1))]) ([(0,.frz kE l.n λi=>QA.enc (l.get i)),(1,.cellsR 0 25 [vi m.x.length,vi m.x.aK,vi m.x.oK,vi m.x.dK.lo,vi m.x.dK.hi])])))))) (.leaf (.tup [.ptr 0 0 0,.ptr 19 0 0]) ([])):=by kernel_rfl
def QKE(l:Rw QQ)(m:VU)(k:Nat)(e:Ex)(J:JSt):Prop:=(e = .ret/\(QN (Jd m l) (l.n-k) k).isSome=true/\J=⟨19,[(4,.int false .i64 (Kq (QN (Jd m l) (l.n-k) k)))],[],8⟩)∨(e = .exit 0/\QN (Jd m l) (l.n-k) k=none/\J=⟨19,[],[],8⟩)
theorem Qaz(l:Rw QQ)(m:VU)(k:Nat)(i:Int):QI 8 [.slz 0 0 l.n cO,KD.val 1 m,vi l.n,vi i] (idp l m) (QBj l m k)=( some [0=0,l.n=l.n,cO=cO,Fn.func (105:Nat)=Fn.func (105:Nat),0=0,0=0,(↑l.n:Int)=(↑l.n:Int),i=(↑k:Int),l.n<=l.n,QC (28:Nat) l.n (λi=>QA.enc (l.get i)) λi=>QA.enc (l.get i),m.x.length=m.x.length,m.x.aK=m.x.aK,m.x.oK=m.x.oK,m.x.dK.lo=m.x.dK.lo,m.x.dK.hi=m.x.dK.hi]):=by kernel_rfl
theorem QaT(l:Rw QQ)(m:VU)(hl:l.n<=1000):Kk (QBj l m) (λk=>k<=l.n) (λk=>l.n-k) (QKE l m) 8 zM [] (mkE prog Xi) (λ_=>hnd (mkE prog Xi) 4) (QT f137 0):=by
 refine⟨λk g hk=>⟨QAz (QWY l m k g) ?_⟩⟩;refine QH ?_ ?_<;>intro h
 .have h:k<l.n:=by have:=qdt h;omega
  obtain⟨n,hm⟩:∃ n,l.n-k=n+1:=⟨l.n-k-1,by omega⟩
  have hm':l.n-(k+1)=n:=by omega
  refine QF (by simp;omega) (QF (by simp;omega) (QF rfl (QH (λhb=>?_) (λhb=>?_))))
  .have hf:QN (Jd m l) (l.n-k) k=some k:=by rw[hm,QN];unfold Jd;rw[(QNI m.x (l.get k) _ rfl rfl rfl rfl rfl).symm.trans hb]
   exact⟨_,.inl ⟨rfl,by rw[hf];rfl,rfl⟩,rfl,rfl,_,vK _ _,by rw[hf];exact⟨rfl,trivial⟩⟩
  .have hf:QN (Jd m l) (l.n-k) k=QN (Jd m l) (l.n-(k+1)) (k+1):=by rw[hm,hm',QN];unfold Jd;rw[(QNI m.x (l.get k) _ rfl rfl rfl rfl rfl).symm.trans hb]
   refine⟨k+1,by omega,by show l.n-(k+1)<l.n-k;omega,λe J h=>by unfold QKE at h ⊢;rw[hf];exact h,rfl,rfl,_,Qaz _ _ _ _,?_⟩
   repeat' first|exact tv|exact(w64 (by omega) (by omega)).trans (by omega)|refine aI ?_ ?_
 .have h:l.n<=k:=by have:=qdf h;omega
  have hf:QN (Jd m l) (l.n-k) k=none:=by rw[show l.n-k=0 by omega];rfl
  exact⟨_,.inr ⟨rfl,hf,rfl⟩,rfl,rfl,_,QEn,trivial⟩
def QU7(l:Rw QQ)(m:VU):List (Prop×Ex×JSt):=[((QN (Jd m l) l.n 0).isSome=true,.ret,⟨19,[(4,.int false .i64 (Kq (QN (Jd m l) l.n 0)))],[],8⟩),(QN (Jd m l) l.n 0=none,.exit 0,⟨19,[],[],8⟩)]
abbrev QBR(l:Rw QQ)(m:VU):Code->St->(Ex->St->QE)->QE:=λ_=>Q4 8 [] (QBj l m 0) (QU7 l m)
theorem QgO(l:Rw QQ)(m:VU)(hl:l.n<=1000)(G:Ctx)(hrd:G.rd=none)(hG:G.n=8):Q8 (mkE prog Xi) G { hnd (mkE prog Xi) 1 with loop:=QBR l m } (Qi f137):=by
 refine Kg (body:=QT f137 0) (QL Hh) hrd (by kernel_rfl) ?_
 refine Kr (n0:=8) (QL Hh) (by omega) (λs hs=>Qw (QL Hh) 4 G _ hrd) (λs hs=>qlr _) ?_ (QaT l m hl) (s0:=0) (Nat.zero_le _) ?_
 .rintro s e J (⟨_,_,rfl⟩|⟨_,_,rfl⟩)<;>exact qlr _
 .rintro e J (⟨rfl,h,rfl⟩|⟨rfl,h,rfl⟩)
  .exact⟨_,qmc,h,rfl,rfl⟩
  .exact⟨_,List.mem_cons_of_mem _ qmc,h,rfl,rfl⟩
def HF:WF ((Rw QQ)×VU×Unit):=λ|(l,(m,_))=>(decide (l.n<=1000),.int false .i64 (Kq (QN (Jd m l) l.n 0)),[])
def QQW:FC:=wFC HF
theorem Qat(l:(Rw QQ))(m:VU):KI (mkE prog Xi) { hnd (mkE prog Xi) 1 with loop:=QBR l m } f137 (QW.vals 0 ((l,m,()):(Rw QQ)×VU×Unit)) (QW.blks 0 ((l,m,()):(Rw QQ)×VU×Unit)) 8=QE.ask (0=0) (QE.ask (l.n=l.n) (QE.ask (cO=cO) (QE.ask (Fn.func (105:Nat)=Fn.func (105:Nat)) (QE.ask (0=0) (QE.ask (0=0) (QE.ask ((↑l.n:Int)=(↑l.n:Int)) (QE.ask ((0:Int)=(0:Int)) (QE.ask (l.n<=l.n) (QE.ask (QC (28:Nat) l.n (λi=>QA.enc (l.get i)) λi=>QA.enc (l.get i)) (QE.ask (m.x.length=m.x.length) (QE.ask (m.x.aK=m.x.aK) (QE.ask (m.x.oK=m.x.oK) (QE.ask (m.x.dK.lo=m.x.dK.lo) (QE.ask (m.x.dK.hi=m.x.dK.hi) (QE.both (QE.asm ((QN (Jd m l) l.n (0:Nat)).isSome=true) (QE.all (λ(g0:Nat->Value)=>QE.leaf (vi (Kq (QN (Jd m l) l.n (0:Nat)))) ([])))) (QE.asm (QN (Jd m l) l.n (0:Nat)=none) (QE.all (λ(g1:Nat->Value)=>QE.leaf (vj (-1:Int)) ([]))))))))))))))))))):=by kernel_rfl
theorem Qfr:JG (mkE prog Xi) (Qi f137) 8 HF (λx_=>{ hnd (mkE prog Xi) 1 with loop:=QBR x_.1 x_.2.1 }):=by
 refine⟨?_⟩;rintro⟨l,⟨m,⟨⟩⟩⟩ hp G h1 h2;exact QgO l m (qdt hp) G h1 h2
theorem QTi:JF (mkE prog Xi) f137 8 HF (λx_=>{ hnd (mkE prog Xi) 1 with loop:=QBR x_.1 x_.2.1 }):=by
 refine⟨?_⟩;rintro⟨l,⟨m,⟨⟩⟩⟩ hp;refine⟨⟨rfl,by simp[HF],rfl⟩,⟨?_⟩⟩
 rw[Qat l m];simp only[HF]at hp
 repeat' first|refine QX (by with_reducible rfl) ?_|refine QX (qlr _) ?_|refine QX (qRr) ?_|refine QX (show _=_ from rfl) ?_
 refine Vx (KB λh=>Q7 λg=>?_) (KB λh=>Q7 λg=>?_)
 .exact KT ⟨rfl,rfl⟩ rfl
 .exact KT ⟨rfl,by show(-1:Int)=Kq (QN (Jd m l) l.n 0);rw[h];rfl⟩ rfl
theorem Qgi:QO prog 137 QQW:=
 JI (QL Hh) func137 (by kernel_rfl) (by kernel_rfl) (by decide) Qfr QTi
def ql:Tab:=Qh Xi 137 QQW
theorem QFF:QZ ql:=Hh.add Qgi
def HG:WF ((Rw QQ)×VU×Unit):=λ|(l,(m,_))=>(decide (l.n<=1000),.bool false (decide (Kq (QN (Jd m l) l.n 0)≥0)),[])
def QLo:FC:=wFC HG
theorem QdZ(l:(Rw QQ))(m:VU):KI (mkE prog ql) (hnd (mkE prog ql) 0) f104 (QW.vals 0 ((l,m,()):(Rw QQ)×VU×Unit)) (QW.blks 0 ((l,m,()):(Rw QQ)×VU×Unit)) 8=QE.need (decide (l.n<=l.n)&&(true&&true)&&decide (l.n<=(1000:Nat))) (QE.leaf (AV.bool false (decide (Kq (QN (Jd m l) l.n (0:Nat))≥(0:Int)))) ([])):=by kernel_rfl
theorem QUZ:JG (mkE prog ql) (Qi f104) 8 HG (λx_=>(hnd (mkE prog ql) 0)):=by
 refine⟨?_⟩;rintro⟨l,⟨m,⟨⟩⟩⟩ hp G h1 h2;exact Qw (QL QFF) 0 G _ h1
theorem QWS:JF (mkE prog ql) f104 8 HG (λx_=>(hnd (mkE prog ql) 0)):=by
 refine⟨?_⟩;rintro⟨l,⟨m,⟨⟩⟩⟩ hp;refine⟨⟨rfl,by simp[HG],rfl⟩,⟨?_⟩⟩
 rw[QdZ l m];simp only[HG]at hp;exact QF (by simpa using hp) (KT rfl rfl)
theorem QaJ:QO prog 104 QLo:=
 JI (QL QFF) func104 (by kernel_rfl) (by kernel_rfl) (by decide) QUZ QWS
def QDs:Tab:=Qh ql 104 QLo
theorem QPY:QZ QDs:=QFF.add QaJ
def Vy(l:Rw QQ):Bool:=(QN (Jd ⟨p⟩ l) l.n 0).isNone
def QKk:Int×Int×Int×Unit->Bool×AV:=λ|(n,(a,(b,_)))=>(true,.bool false (Qe n a b))
def QL1:FC:=KM (KN QKk)
theorem QXW(n:Int)(a:Int)(b:Int):KJ (mkE prog QDs) (hnd (mkE prog QDs) 2) false f100 (Q3.enc ((n,a,b,()):Int×Int×Int×Unit)) [] 0=QE.br (decide (a<=n)) (QE.leaf (AV.bool false (decide (n<=b))) ([])) (QE.leaf (AV.bool true false) ([])):=by kernel_rfl
theorem Qdx:QO prog 100 QL1:=by
 refine KZ QPY 2 func100 (by kernel_rfl) (by kernel_rfl) ?_
 rintro⟨n,a,b,⟨⟩⟩ hp;rw[QXW n a b];simp only[QKk,QE.den,AV.same,AV.sameL,and_true,true_and]at hp ⊢
 (repeat' (first|(refine aI ?_ ?_)|(intro _)))<;>simp_all [Qe]<;>omega
def qP:Tab:=Qh QDs 100 QL1
theorem QF4:QZ qP:=QPY.add Qdx
def QAh:WF (Qz×(Rw QQ)×Unit):=λ|(p,(l,_))=>(decide (l.n<=1000),.bool false (Vy p l),[])
def QOM:FC:=wFC QAh
theorem Qac(l:(Rw QQ)):KI (mkE prog qP) (hnd (mkE prog qP) 0) f70 (QW.vals 0 ((p,l,()):Qz×(Rw QQ)×Unit)) (QW.blks 0 ((p,l,()):Qz×(Rw QQ)×Unit)) 8=QE.need (decide (l.n<=l.n)&&(true&&true)&&decide (l.n<=(1000:Nat))) (QE.leaf (AV.bool false !decide (Kq (QN (Jd (FnC.mk p) l) l.n (0:Nat))≥(0:Int))) ([])):=by kernel_rfl
theorem Qgx:JG (mkE prog qP) (Qi f70) 8 QAh (λx_=>(hnd (mkE prog qP) 0)):=by
 refine⟨?_⟩;rintro⟨p,⟨l,⟨⟩⟩⟩ hp G h1 h2;exact Qw (QL QF4) 0 G _ h1
theorem QTp:JF (mkE prog qP) f70 8 QAh (λx_=>(hnd (mkE prog qP) 0)):=by
 refine⟨?_⟩;rintro⟨p,⟨l,⟨⟩⟩⟩ hp;refine⟨⟨rfl,by simp[QAh],rfl⟩,⟨?_⟩⟩
 rw[Qac p l];simp only[QAh]at hp;exact QF (by simpa using hp) (KT (QHf _) rfl)
theorem QWr:QO prog 70 QOM:=
 JI (QL QF4) func70 (by kernel_rfl) (by kernel_rfl) (by decide) Qgx QTp
def qI:Tab:=Qh qP 70 QOM
theorem QEy:QZ qI:=QF4.add QWr
def Puz.okN(d:Puz):Bool:=Qe (d.ps.n:Int) 1 9&&(Qe d.wide 1 d.ps.n&&(Qe d.high 1 d.ps.n&&i64.wrap (d.wide*d.high)==(d.ps.n:Int)))
def Puz.ok(d:Puz):Bool:=d.okN&&Vy d.pK d.ps
def jt:WF (Puz×Unit):=λ|(d,_)=>(decide (d.ps.n<=1000),.bool false d.ok,[])
def QM9:FC:=wFC jt
theorem Qco(d:Puz):KI (mkE prog qI) (hnd (mkE prog qI) 0) f63 (QW.vals 0 ((d,()):Puz×Unit)) (QW.blks 0 ((d,()):Puz×Unit)) 8=QE.need (true) (QE.br (Qe (↑d.ps.n:Int) (1:Int) (9:Int)) (QE.need (true) (QE.br (Qe d.wide (1:Int) (↑d.ps.n:Int)) (QE.need (true) (QE.br (Qe d.high (1:Int) (↑d.ps.n:Int)) (QE.br (i64.wrap (d.wide*d.high)==(↑d.ps.n:Int)) (QE.need (true&&(decide (d.ps.n<=d.ps.n)&&true)&&decide (d.ps.n<=(1000:Nat))) (QE.leaf (AV.bool false (Vy d.pK d.ps)) ([]))) (QE.leaf (AV.bool true false) ([]))) (QE.leaf (AV.bool true false) ([])))) (QE.leaf (AV.bool true false) ([])))) (QE.leaf (AV.bool true false) ([]))):=by kernel_rfl
theorem QXN:JG (mkE prog qI) (Qi f63) 8 jt (λx_=>(hnd (mkE prog qI) 0)):=by
 refine⟨?_⟩;rintro⟨d,⟨⟩⟩ hp G h1 h2;exact Qw (QL QEy) 0 G _ h1
theorem QbG:JF (mkE prog qI) f63 8 jt (λx_=>(hnd (mkE prog qI) 0)):=by
 refine⟨?_⟩;rintro⟨d,⟨⟩⟩ hp;refine⟨⟨rfl,by simp[jt],rfl⟩,⟨?_⟩⟩
 rw[Qco d];simp only[jt]at hp;have no:d.okN=false->(QE.leaf (AV.bool true false) []).den (VQ 8 (jt (d,())).2.1 (jt (d,())).2.2):=λh=>KT (show false=d.ok by rw[Puz.ok,h];rfl) rfl
 refine QF rfl (QH (λh1=>QF rfl (QH (λh2=>QF rfl (QH (λh3=>QH (λh4=>QF (by simpa using hp) (KT (show Vy d.pK d.ps=d.ok by rw[Puz.ok,Puz.okN,h1,h2,h3,h4];rfl) rfl)) (λh4=>no (by rw[Puz.okN,h1,h2,h3,h4];rfl))) (λh3=>no (by rw[Puz.okN,h1,h2,h3];rfl)))) (λh2=>no (by rw[Puz.okN,h1,h2];rfl)))) (λh1=>no (by rw[Puz.okN,h1];rfl)))
theorem QeB:QO prog 63 QM9:=
 JI (QL QEy) func63 (by kernel_rfl) (by kernel_rfl) (by decide) QXN QbG
def QC7:Tab:=Qh qI 63 QM9
theorem QO9:QZ QC7:=QEy.add QeB
def jj(s:Int):Int:=(s+2).tmod 4
def QNu:Int×Unit->Bool×AV:=λ|(s,_)=>(decide (0<=s/\s<=3),.int false .i64 (jj s))
def QQ6:FC:=KM (KN QNu)
theorem QVO(s:Int):KJ (mkE prog QC7) (hnd (mkE prog QC7) 2) false f66 (Q3.enc ((s,()):Int×Unit)) [] 0=QE.leaf (vi ((i64.wrap (s+(2:Int))).tmod (4:Int))) ([]):=by kernel_rfl
theorem QbP:QO prog 66 QQ6:=by
 refine KZ QO9 2 func66 (by kernel_rfl) (by kernel_rfl) ?_
 rintro⟨s,⟨⟩⟩ hp;rw[QVO s];simp only[QNu,QE.den,AV.same,AV.sameL,and_true,true_and]at hp ⊢;have hp:=qdt hp;show(i64.wrap (s+2)).tmod 4=jj s;rw[w64 (by omega) (by omega)];rfl
def Wo:Tab:=Qh QC7 66 QQ6
theorem QIG:QZ Wo:=QO9.add QbP
def Qj(wide high cell side:Int):Int:=
 cond (side==0&&decide (0<cell.tdiv wide)) (cell-wide) (cond (side==1&&decide (cell.tmod wide<wide-1)) (cell+1)
  (cond (side==2&&decide (cell.tdiv wide<high-1)) (cell+wide) (cond (side==3&&decide (0<cell.tmod wide)) (cell-1) (-1))))
def qw:WF (Puz×Int×Int×Unit):=λ|(d,(c,(s,_)))=>(decide ((1<=d.wide/\d.wide<=100)/\(1<=d.high/\d.high<=100)/\(0<=c/\c<=100)),.int false .i64 (Qj d.wide d.high c s),[])
def QLZ:FC:=wFC qw
theorem QYc(d:Puz)(c:Int)(s:Int):KI (mkE prog Wo) (hnd (mkE prog Wo) 0) f64 (QW.vals 0 ((d,c,s,()):Puz×Int×Int×Unit)) (QW.blks 0 ((d,c,s,()):Puz×Int×Int × Unit)) 8 = .need (!decide (d.wide=0)) (.need (!decide (d.wide=0)) (.br (s==0) (.br (decide (i64.wrap (c.tdiv d.wide)>0)) (.leaf (vi (i64.wrap (c-d.wide))) ([])) (.br (s==1) (.br (decide (c.tmod d.wide<i64.wrap (d.wide-1))) (.leaf (vi (i64.wrap (c+1))) ([])) (.br (s==2) (.br (decide (i64.wrap (c.tdiv d.wide)<i64.wrap (d.high-1))) (.leaf (vi (i64.wrap (c+d.wide))) ([])) (.br (s==3) (.br (decide (c.tmod d.wide>0)) (.leaf (vi (i64.wrap (c-1))) ([])) (.leaf (vj (-1)) ([]))) (.leaf (vj (-1)) ([])))) (.br (s==3) (.br (decide (c.tmod d.wide>0)) (.leaf (vi (i64.wrap (c-1))) ([])) (.leaf (vj (-1)) ([]))) (.leaf (vj (-1)) ([]))))) (.br (s==2) (.br (decide (i64.wrap (c.tdiv d.wide)<i64.wrap (d.high-1))) (.leaf (vi (i64.wrap (c+d.wide))) ([])) (.br (s==3) (.br (decide (c.tmod d.wide>0)) (.leaf (vi (i64.wrap (c-1))) ([])) (.leaf (vj (-1)) ([]))) (.leaf (vj (-1)) ([])))) (.br (s==3) (.br (decide (c.tmod d.wide>0)) (.leaf (vi (i64.wrap (c-1))) ([])) (.leaf (vj (-1)) ([]))) (.leaf (vj (-1)) ([])))))) (.br (s==1) (.br (decide (c.tmod d.wide<i64.wrap (d.wide-1))) (.leaf (vi (i64.wrap (c+1))) ([])) (.br (s==2) (.br (decide (i64.wrap (c.tdiv d.wide)<i64.wrap (d.high-1))) (.leaf (vi (i64.wrap (c+d.wide))) ([])) (.br (s==3) (.br (decide (c.tmod d.wide>0)) (.leaf (vi (i64.wrap (c-1))) ([])) (.leaf (vj (-1)) ([]))) (.leaf (vj (-1)) ([])))) (.br (s==3) (.br (decide (c.tmod d.wide>0)) (.leaf (vi (i64.wrap (c-1))) ([])) (.leaf (vj (-1)) ([]))) (.leaf (vj (-1)) ([]))))) (.br (s==2) (.br (decide (i64.wrap (c.tdiv d.wide)<i64.wrap (d.high-1))) (.leaf (vi (i64.wrap (c+d.wide))) ([])) (.br (s==3) (.br (decide (c.tmod d.wide>0)) (.leaf (vi (i64.wrap (c-1))) ([])) (.leaf (vj (-1)) ([]))) (.leaf (vj (-1)) ([])))) (.br (s==3) (.br (decide (c.tmod d.wide>0)) (.leaf (vi (i64.wrap (c-1))) ([])) (.leaf (vj (-1)) ([]))) (.leaf (vj (-1)) ([]))))))):=by kernel_rfl
theorem QYP:JG (mkE prog Wo) (Qi f64) 8 qw (λx_=>(hnd (mkE prog Wo) 0)):=by
 refine⟨?_⟩;rintro⟨d,⟨c,⟨s,⟨⟩⟩⟩⟩ hp G h1 h2;exact Qw (QL QIG) 0 G _ h1
theorem QW9:JF (mkE prog Wo) f64 8 qw (λx_=>(hnd (mkE prog Wo) 0)):=by
 refine⟨?_⟩;rintro⟨d,⟨c,⟨s,⟨⟩⟩⟩⟩ hp;refine⟨⟨rfl,by simp[qw],rfl⟩,⟨?_⟩⟩
 rw[QYc d c s];simp only[qw]at hp;obtain⟨⟨w1,w2⟩,⟨h1,h2⟩,c1,c2⟩:=qdt hp;have q0:0<=c.tdiv d.wide:=Int.tdiv_nonneg c1 (by omega)
 have q1:c.tdiv d.wide<=c:=by rw[Int.tdiv_eq_ediv_of_nonneg c1];exact Int.ediv_le_self _ c1
 have m0:0<=c.tmod d.wide:=Int.tmod_nonneg _ c1;have m1:c.tmod d.wide<d.wide:=Int.tmod_lt_of_pos _ (by omega)
 have e1:i64.wrap (c.tdiv d.wide)=c.tdiv d.wide:=w64 (by omega) (by omega)
 have e2:i64.wrap (c-d.wide)=c-d.wide:=w64 (by omega) (by omega)
 have e3:i64.wrap (d.wide-1)=d.wide-1:=w64 (by omega) (by omega)
 have e4:i64.wrap (c+1)=c+1:=w64 (by omega) (by omega)
 have e5:i64.wrap (d.high-1)=d.high-1:=w64 (by omega) (by omega)
 have e6:i64.wrap (c+d.wide)=c+d.wide:=w64 (by omega) (by omega)
 have e7:i64.wrap (c-1)=c-1:=w64 (by omega) (by omega)
 have dz:(!decide (d.wide=0))=true:=by simp;omega
 rw[e1,e2,e3,e4,e5,e6,e7];refine QF dz (QF dz ?_);have fin:∀ v:AV,v.same (.int false .i64 (Qj d.wide d.high c s))->(QE.leaf v []).den (VQ 8 (qw (d,c,s,())).2.1 (qw (d,c,s,())).2.2):=λv h=>KT h rfl
 repeat' refine QH ?_ ?_<;>intro _
 all_goals refine fin _ ?_
 all_goals simp only[AV.same,Qj,true_and]
 all_goals grind
theorem QT4:QO prog 64 QLZ:=
 JI (QL QIG) func64 (by kernel_rfl) (by kernel_rfl) (by decide) QYP QW9
def Y6:Tab:=Qh Wo 64 QLZ
theorem Gr:QZ Y6:=QIG.add QT4
