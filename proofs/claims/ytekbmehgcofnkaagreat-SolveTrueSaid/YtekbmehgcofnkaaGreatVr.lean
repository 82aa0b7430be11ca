/- - -/
import Derived.Test.YtekbmehgcofnkaaGreatVo
import Derived.Test.YtekbmehgcofnkaaGreatVq
set_option linter.all false
noncomputable section
open Go.Proofs.Tryz
open Go.IntKind (i64)
set_option maxRecDepth 100000
namespace Go.Proofs.YtekbmehgcofnkaaGreat
open Go.SX
def QI(fn:Func)(k:Nat):Code:=match (JA (Qn fn))[k]? with
 | some (.loop b)=>b
 | _ => .skip
instance : QA Edge where
  ks := [.int .i64,.int .i64,.int .i64,.int .i64,.int .i64,.int .i64,.int .i64]
  enc e j := match j with
    | 0 => e.kind
    | 1 => e.at_.lo
    | 2 => e.at_.hi
    | 3 => e.wide.lo
    | 4 => e.wide.hi
    | 5 => e.deep.lo
    | _ => e.deep.hi
  dec f := ⟨f 0,⟨f 1,f 2⟩,⟨f 3,f 4⟩,⟨f 5,f 6⟩⟩
  ok _ := rfl
structure FnK (g:Nat) where
 u:Unit
instance (g : Nat) : Enc (FnK g) where
  enc _ := .fn (.func g) []
  dec v := match v with
    | .fn (.func g') [] => (match Nat.beq g' g with | true => some ⟨()⟩ | false => none)
    | _ => none
  ok v x h := by
    split at h <;> (try (cases h; done))
    split at h <;> (try (cases h; done))
    rename_i hg;have := qnb hg;subst this;exact⟨λ_=>rfl,rfl⟩
def QR(p:Nat->Bool):Nat->Nat->Option Nat
 | 0,_=>none
 | m+1,k=>match p k with
  | true=>some k
  | false=>QR p m (k+1)
def Kv:Option Nat->Int
 | some i=>i
 | none => -1
def Y9(p:Nat->Bool)(n:Nat):Bool:=(QR (λi=>!p i) n 0).isNone
theorem vv{p:Nat->Bool}:∀{m k:Nat},QR p m k=none->∀ i,k<=i->i<k+m->p i=false
 | 0,k,_,i,h1,h2=>by omega
 | m+1,k,h,i,h1,h2=>by
  simp only[QR]at h;split at h
  .cases h
  .rename_i hk;rcases Nat.eq_or_lt_of_le h1 with rfl|hlt
   .exact hk
   .exact vv h i hlt (by omega)
theorem Qhm{p:Nat->Bool}{n:Nat}(h:Y9 p n=true){i:Nat}(hi:i<n):p i=true:=by
 unfold Y9 at h;rw[Option.isNone_iff_eq_none]at h;have:=vv h i (Nat.zero_le _) (by omega)
 simpa using this
theorem vL{p:Nat->Bool}:∀{m k:Nat},(∀ i,k<=i->i<k+m->p i=false)->QR p m k=none
 | 0,_,_=>rfl
 | m+1,k,h=>by
  simp only[QR];rw[h k (qlr _) (by omega)]
  exact vL λi h1 h2=>h i (by omega) (by omega)
def QTo:Edge×Unit->Bool×AV:=λ|(s,_)=>(true,.bool false (!s.ok))
def QRG:FC:=Kj (Ko QTo)
variable (p:Qx)(s:Edge)(l:Rw Edge)(least:Int)(o:List Int)
theorem QgT:KY (mkE prog QD4) (hnd (mkE prog QD4) 0) false f122 (KL.enc ((s,()):Edge×Unit)) [] 0=QC.need (true) (QC.leaf (AV.bool false !s.ok) ([])):=by kernel_rfl
theorem QZT:QS prog 122 QRG:=by
 refine K2 QRq 0 func122 (by kernel_rfl) (by kernel_rfl) ?_
 rintro⟨s,⟨⟩⟩ hp;rw[QgT s];simp only[QTo,QC.den,AV.same,AV.sameL,and_true,true_and]at hp ⊢
def ZS:Tab:=Qc QD4 122 QRG
theorem QCV:Qf ZS:=QRq.add QZT
def J7(i:Nat):Bool := !(l.get i).ok
def QDi(k:Nat):JSt:=⟨19,[(0,.slz 0 0 l.n (.of 0)),(1,.fn (.func 122) []),(7,.int false .i64 l.n),(8,.int false .i64 k)],Qg.blk 0 l,8⟩
def QSC:Ex->List Nat
 | .normal=>[0,1,7,8]
 | .exit _=>[]
 | .ret=>[4]
theorem Qkf(k:Nat)(g:Nat->Value):exec (mkE prog ZS) (hnd (mkE prog ZS) 0) (QI f147 0) (JSt.inst (QDi l k) g) (Q5 [] QSC)=QC.br (decide ((↑k:Int)<(↑l.n:Int))) (QC.need (decide ((0:Int)<=(↑k:Int)/\(↑k:Int)<(↑l.n:Int))&&decide (l.n<=l.n)) (QC.need (decide (k<l.n)) (QC.need (true) (QC.br (!(l.get k).ok) (QC.leaf (AV.tup [AV.nili,AV.ptr (19:Nat) (0:Nat) (0:Nat),vi (↑k:Int)]) ([])) (QC.leaf (AV.tup [AV.nilp,AV.ptr (19:Nat) (0:Nat) (0:Nat),AV.slz (0:Nat) (0:Nat) l.n cO,AV.fn (Fn.func (122:Nat)) [],vi (↑l.n:Int),vi (i64.wrap ((↑k:Int)+(1:Int)))]) ([((0:Nat),Blk.frz [CK.int i64,CK.int i64,CK.int i64,CK.int i64,CK.int i64,CK.int i64,CK.int i64] l.n λi=>QA.enc (l.get i))])))))) (QC.leaf (AV.tup [AV.ptr (0:Nat) (0:Nat) (0:Nat),AV.ptr (19:Nat) (0:Nat) (0:Nat)]) ([])):=by kernel_rfl
def QRI(k:Nat)(e:Ex)(J:JSt):Prop:=(e = .ret/\(QR (J7 l) (l.n-k) k).isSome=true/\J=⟨19,[(4,.int false .i64 (Kv (QR (J7 l) (l.n-k) k)))],[],8⟩)∨(e = .exit 0/\QR (J7 l) (l.n-k) k=none/\J=⟨19,[],[],8⟩)
abbrev wbZ(l:Rw Edge):List Prop:=[l.n<=l.n,QB (7:Nat) l.n (λi=>QA.enc (l.get i)) λi=>QA.enc (l.get i)]
theorem QWx(k:Nat)(i:Int):QF 8 [.slz 0 0 l.n cO,.fn (.func 122) [],vi l.n,vi i] (Qg.blk 0 l) (QDi l k)=( some ([0=0,l.n=l.n,cO=cO,Fn.func (122:FuncId)=Fn.func (122:FuncId),(↑l.n:Int)=(↑l.n:Int),i=(↑k:Int)]++wbZ l)):=by kernel_rfl
theorem QkQ(i j:Int):QF 8 [vi i] [] ⟨19,[(4,vi j)],[],8⟩=( some [i=j]):=by kernel_rfl
theorem QXQ :QF 8 [] [] ⟨19,[],[],8⟩=( some []):=by kernel_rfl
theorem Qfy(hl:l.n<=1000):VH (QDi l) (λk=>k<=l.n) (λk=>l.n-k) (QRI l) 8 QSC [] (mkE prog ZS) (λ_=>hnd (mkE prog ZS) 0) (QI f147 0):=by
 refine⟨λk g hk=>⟨QSB (Qkf l k g) ?_⟩⟩;refine QE ?_ ?_<;>intro h
 .have h:k<l.n:=by have:=qdt h;omega
  obtain⟨m,hm⟩:∃ m,l.n-k=m+1:=⟨l.n-k-1,by omega⟩
  have hm':l.n-(k+1)=m:=by omega
  refine QG (by simp;omega) (QG (by simp;omega) (QG rfl (QE (λhb=>?_) (λhb=>?_))))
  .have hf:QR (J7 l) (l.n-k) k=some k:=by rw[hm,QR];unfold J7;rw[hb]
   exact⟨_,.inl ⟨rfl,by rw[hf];rfl,rfl⟩,rfl,rfl,_,QkQ _ _,by rw[hf];exact⟨rfl,trivial⟩⟩
  .have hf:QR (J7 l) (l.n-k) k=QR (J7 l) (l.n-(k+1)) (k+1):=by rw[hm,hm',QR];unfold J7;rw[hb]
   refine⟨k+1,by omega,by show l.n-(k+1)<l.n-k;omega,λe J h=>by unfold QRI at h ⊢;rw[hf];exact h,rfl,rfl,_,QWx _ _ _,?_⟩
   exact⟨rfl,rfl,rfl,rfl,rfl,(w64 (by omega) (by omega)).trans (by omega),qlr _,qRr,trivial⟩
 .have h:l.n<=k:=by have:=qdf h;omega
  have hf:QR (J7 l) (l.n-k) k=none:=by rw[show l.n-k=0 by omega];rfl
  exact⟨_,.inr ⟨rfl,hf,rfl⟩,rfl,rfl,_,QXQ,trivial⟩
def Qem:List (Prop×Ex×JSt):=[((QR (J7 l) l.n 0).isSome=true,.ret,⟨19,[(4,.int false .i64 (Kv (QR (J7 l) l.n 0)))],[],8⟩),(QR (J7 l) l.n 0=none,.exit 0,⟨19,[],[],8⟩)]
abbrev QF7(P:Program)(l:Rw Edge):Hnd:={ hnd (mkE P ZS) 1 with loop:=λ_=>KF 8 [] (QDi l 0) (Qem l) }
theorem Qku(hl:l.n<=1000)(G:Ctx)(hrd:G.rd=none)(hG:G.n=8):Q0 (mkE prog ZS) G (QF7 prog l) (Qn f147):=by
 refine KO (body:=QI f147 0) (QP QCV) hrd (by kernel_rfl) ?_
 refine XP (n0:=8) (QP QCV) (by omega) (λs hs=>Qz (QP QCV) 0 G _ hrd) (λs hs=>qlr _) ?_ (Qfy l hl) (s0:=0) (Nat.zero_le _) ?_
 .rintro s e J (⟨_,_,rfl⟩|⟨_,_,rfl⟩)<;>exact qlr _
 .rintro e J (⟨rfl,h,rfl⟩|⟨rfl,h,rfl⟩)
  .exact⟨_,qmc,h,rfl,rfl⟩
  .exact⟨_,List.mem_cons_of_mem _ qmc,h,rfl,rfl⟩
theorem QgE(x:FnK 122):Kg (mkE prog ZS) (QF7 prog l) f147 (QZ.vals 0 (l,x,())) (QZ.blks 0 (l,x,())) 8=QC.ask (0=0) (QC.ask (l.n=l.n) (QC.ask (cO=cO) (QC.ask (Fn.func (122:Nat)=Fn.func (122:FuncId)) (QC.ask ((↑l.n:Int)=(↑l.n:Int)) (QC.ask ((0:Int)=(0:Int)) (QC.ask (l.n<=l.n) (QC.ask (QB (7:Nat) l.n (λi=>QA.enc (l.get i)) λi=>QA.enc (l.get i)) (QC.both (QC.asm ((QR (J7 l) l.n (0:Nat)).isSome=true) (QC.all (λ(g0:Nat->Value)=>QC.leaf (vi (Kv (QR (J7 l) l.n (0:Nat)))) ([])))) (QC.asm (QR (J7 l) l.n (0:Nat)=none) (QC.all (λ(g1:Nat->Value)=>QC.leaf (vj (-1:Int)) ([])))))))))))):=by kernel_rfl
def QDo:WF (Rw Edge×FnK 122×Unit):=λx=>(decide (x.1.n<=1000),vi (Kv (QR (J7 x.1) x.1.n 0)),[])
def QNK:FC:=wFC QDo
theorem Qh4:JL (mkE prog ZS) (Qn f147) 8 QDo (λx=>QF7 prog x.1):=
 ⟨λx hx G h1 h2=>Qku x.1 (qdt hx) G h1 h2⟩
theorem Qcg:JH (mkE prog ZS) f147 8 QDo (λx=>QF7 prog x.1):=by
 refine⟨?_⟩;rintro⟨l,x,⟨⟩⟩ hp;refine⟨⟨rfl,by simp[QDo],rfl⟩,⟨?_⟩⟩
 rw[QgE l x];refine Qt rfl (Qt rfl (Qt rfl (Qt rfl (Qt rfl (Qt rfl (Qt (qlr _) (Qt (qRr) (Kq (Qk λh=>Ql λg=>?_) (Qk λh=>Ql λg=>?_)))))))))
 .exact KN ⟨rfl,rfl⟩ rfl
 .exact KN ⟨rfl,by show(-1:Int)=Kv (QR (J7 l) l.n 0);rw[h];rfl⟩ rfl
theorem QiN:QS prog 147 QNK:=
 JY (QP QCV) func147 (by kernel_rfl) (by kernel_rfl) (by decide) Qh4 Qcg
def jY:Tab:=Qc ZS 147 QNK
theorem QJM:Qf jY:=QCV.add QiN
def QCS:WF ((Rw Edge)×(FnK 122)×Unit):=λ|(l,(x,_))=>(decide (l.n<=1000),.bool false (decide (Kv (QR (J7 l) l.n 0)≥0)),[])
def QPQ:FC:=wFC QCS
theorem QkK(l:(Rw Edge))(x:(FnK 122)):Kg (mkE prog jY) (hnd (mkE prog jY) 0) f121 (QZ.vals 0 ((l,x,()):(Rw Edge)×(FnK 122)×Unit)) (QZ.blks 0 ((l,x,()):(Rw Edge)×(FnK 122)×Unit)) 8=QC.need (decide (l.n<=l.n)&&(true&&true)&&decide (l.n<=(1000:Nat))) (QC.leaf (AV.bool false (decide (Kv (QR (J7 l) l.n (0:Nat))≥(0:Int)))) ([])):=by kernel_rfl
theorem Qbg:JL (mkE prog jY) (Qn f121) 8 QCS (λx_=>(hnd (mkE prog jY) 0)):=by
 refine⟨?_⟩;rintro⟨l,⟨x,⟨⟩⟩⟩ hp G h1 h2;exact Qz (QP QJM) 0 G _ h1
theorem QdI:JH (mkE prog jY) f121 8 QCS (λx_=>(hnd (mkE prog jY) 0)):=by
 refine⟨?_⟩;rintro⟨l,⟨x,⟨⟩⟩⟩ hp;refine⟨⟨rfl,by simp[QCS],rfl⟩,⟨?_⟩⟩
 rw[QkK l x];simp only[QCS]at hp;exact QG (by simpa using hp) (KN rfl rfl)
theorem Qf6:QS prog 121 QPQ:=
 JY (QP QJM) func121 (by kernel_rfl) (by kernel_rfl) (by decide) Qbg QdI
def jN:Tab:=Qc jY 121 QPQ
theorem QHV:Qf jN:=QJM.add Qf6
theorem QWp:∀(o:Option Nat),(!decide (Kv o≥0))=o.isNone
 | some i=>by simp[Kv]
 | none=>rfl
def QBZ:WF ((Rw Edge)×Unit):=λ|(l,_)=>(decide (l.n<=1000),.bool false (Y9 (λi=>(l.get i).ok) l.n),[])
def QOL:FC:=wFC QBZ
theorem Qh2(l:(Rw Edge)):Kg (mkE prog jN) (hnd (mkE prog jN) 0) f76 (QZ.vals 0 ((l,()):(Rw Edge)×Unit)) (QZ.blks 0 ((l,()):(Rw Edge)×Unit)) 8=QC.need (decide (l.n<=l.n)&&(true&&true)&&decide (l.n<=(1000:Nat))) (QC.leaf (AV.bool false !decide (Kv (QR (J7 l) l.n (0:Nat))≥(0:Int))) ([])):=by kernel_rfl
theorem QgP:JL (mkE prog jN) (Qn f76) 8 QBZ (λx_=>(hnd (mkE prog jN) 0)):=by
 refine⟨?_⟩;rintro⟨l,⟨⟩⟩ hp G h1 h2;exact Qz (QP QHV) 0 G _ h1
theorem Qdf:JH (mkE prog jN) f76 8 QBZ (λx_=>(hnd (mkE prog jN) 0)):=by
 refine⟨?_⟩;rintro⟨l,⟨⟩⟩ hp;refine⟨⟨rfl,by simp[QBZ],rfl⟩,⟨?_⟩⟩
 rw[Qh2 l];simp only[QBZ]at hp;exact QG (by simpa using hp) (KN (QWp _) rfl)
theorem QWT:QS prog 76 QOL:=
 JY (QP QHV) func76 (by kernel_rfl) (by kernel_rfl) (by decide) QgP Qdf
def XR:Tab:=Qc jN 76 QOL
theorem QCO:Qf XR:=QHV.add QWT
def YX{α:Type}[QA α](ty k:Nat)(l:List α)(d:α):Nat×Blk:=(k,.rowz true ty (QA.ks α) l.length λi=>QA.enc (l.getD i d))
def JB(q:Nat->Bool):Nat->List Int
 | 0=>[]
 | k+1=>match q k with
  | true=>JB q k++[(k:Int)]
  | false=>JB q k
theorem QSs(q:Nat->Bool):∀ k,(JB q k).length<=k
 | 0=>qlr _
 | k+1=>by
  have:=QSs q k;simp only[JB];split<;>simp<;>omega
def JS(l:Rw Edge)(i:Nat):Bool:=decide (Y7 p s (l.get i)≥least)
def jR(l:Rw Edge)(o:List Int)(k:Int):JSt:=
 ⟨30,[(2,.int false .i64 least),(4,.ptr 8 0 0),(5,.ptr 16 0 0),(8,.slz 24 0 o.length (.of 0)),(11,.slz 3 0 l.n (.of 0)),(12,.int false .i64 l.n),(13,.int false .i64 k)],
  [(8,.cells 0 25 (Enc.enc p).cells),(16,.cells 0 55 (Enc.enc s).cells),YX 3 24 o 0]++Qg.blk 3 l,32⟩
def QSV:Ex->List Nat
 | .normal=>[2,4,5,8,11,12,13]
 | _=>[8]
abbrev QQJ:Nat×Blk:=(8,.cells 0 25 [vi p.length,vi p.aK,vi p.oK,vi p.dK.lo,vi p.dK.hi])
abbrev QWO:Nat×Blk:=(16,.cells 0 55 [vi s.kind,vi s.at_.lo,vi s.at_.hi,vi s.wide.lo,vi s.wide.hi,vi s.deep.lo,.int false .i64 s.deep.hi])
abbrev QTv:Nat×Blk:=(3,.frz (List.append (waJ) (List.append (waJ) ([.int .i64]))) l.n λi=>QA.enc (l.get i))
theorem QZu(l:Rw Edge)(o:List Int)(k:Nat)(g:Nat->Value):exec (mkE prog XR) (hnd (mkE prog XR) 0) (QI f156 0) (JSt.inst (jR p s least l o k) g) (Q5 [] QSV) = .br (decide ((k:Int)<(l.n:Int))) (.need (decide ((0:Int)<=(k:Int)/\(k:Int)<(l.n:Int))&&decide (l.n<=l.n)) (.need (decide (k<l.n)) (.need (okP p s (l.get k)) (.br (decide (Y7 p s (l.get k) ≥ least)) (.need (decide (o.length<=o.length)&&(true&&decide ((o.length+1+(o.length+1) / 4+192)*8<=281474976710656/\o.length+1<=9223372036854775807))) (.leaf (.tup [.nilp,.ptr 30 0 0,vi least,.ptr 8 0 0,.ptr 16 0 0,.slz 160 0 (o.length+1) cO,.slz 3 0 l.n cO,vi (l.n:Int),vi (i64.wrap ((k:Int)+1))]) ([(QQJ p),(QWO s),(160,.rowz true 3 [.int .i64] (o.length+1) (KQ o.length (λi=>QA.enc (o.getD i 0)) (KD [[vi (k:Int)]] 0))),(QTv l)]))) (.leaf (.tup [.nilp,.ptr 30 0 0,vi least,.ptr 8 0 0,.ptr 16 0 0,.slz 24 0 o.length cO,.slz 3 0 l.n cO,vi (l.n:Int),vi (i64.wrap ((k:Int)+1))]) ([(QQJ p),(QWO s),(24,.rowz true 3 [.int .i64] o.length λi=>QA.enc (o.getD i 0)),(QTv l)])))))) (.leaf (.tup [.ptr 0 0 0,.ptr 30 0 0,.slz 24 0 o.length cO]) ([(24,.rowz true 3 [.int .i64] o.length λi=>QA.enc (o.getD i 0))])):=by kernel_rfl
theorem Qjl(x:Int):QB 1 (o++[x]).length (KQ o.length (λi=>QA.enc (o.getD i 0)) (KD [[AV.int false i64 x]] 0)) (λi=>QA.enc ((o++[x]).getD i 0)):=by
 intro i hi;refine⟨?_,trivial⟩;rw[X4];rw[List.length_append,List.length_singleton]at hi;split
 .rename_i h;show o.getD i 0=(o++[x]).getD i 0;rw[List.getD_eq_getElem?_getD,List.getD_eq_getElem?_getD,List.getElem?_append_left h]
 .rename_i h;have:i=o.length:=by omega
  subst this;show x=(o++[x]).getD o.length 0;simp
abbrev waO(p:Qx)(s:Edge):List Prop:=[p.length=p.length,p.aK=p.aK,p.oK=p.oK,p.dK.lo=p.dK.lo,p.dK.hi=p.dK.hi,s.kind=s.kind,s.at_.lo=s.at_.lo,s.at_.hi=s.at_.hi,s.wide.lo=s.wide.lo,s.wide.hi=s.wide.hi,s.deep.lo=s.deep.lo,s.deep.hi=s.deep.hi]
abbrev wb1(g:Nat->Nat->Int)(n:Nat)(o:List Int):List Prop:=[o.length<=n,QB (1:Nat) o.length g λi=>QA.enc (o.getD i (0:Int))]
theorem QXU(l:Rw Edge)(n:Nat)(g:Nat->Nat->Int)(i:Int)(o:List Int)(k:Int):QF 8 [vi least,.ptr 8 0 0,.ptr 16 0 0,.slz 24 0 n cO,.slz 3 0 l.n cO,vi l.n,vi i] ([(8,.cells 0 25 (Enc.enc p).cells),(16,.cells 0 55 (Enc.enc s).cells),(24,.rowz true 3 [.int .i64] n g)]++Qg.blk 3 l) (jR p s least l o k)=( some ([least=least,0=0,0=0,0=0,0=0,0=0,n=o.length,cO=cO,0=0,l.n=l.n,cO=cO,(↑l.n:Int)=(↑l.n:Int),i=k]++waO p s++((wb1 g n o)++wbZ l))):=by kernel_rfl
theorem QjM(l:Rw Edge)(n:Nat)(g:Nat->Nat->Int)(i:Int)(o:List Int)(k:Int):QF 8 [vi least,.ptr 8 0 0,.ptr 16 0 0,.slz 160 0 n cO,.slz 3 0 l.n cO,vi l.n,vi i] ([(8,.cells 0 25 (Enc.enc p).cells),(16,.cells 0 55 (Enc.enc s).cells),(160,.rowz true 3 [.int .i64] n g)]++Qg.blk 3 l) (jR p s least l o k)=( some ([least=least,0=0,0=0,0=0,0=0,0=0,n=o.length,cO=cO,0=0,l.n=l.n,cO=cO,(↑l.n:Int)=(↑l.n:Int),i=k]++waO p s++((wb1 g n o)++wbZ l))):=by kernel_rfl
def Gl:JSt:=⟨30,[(8,.slz 24 0 o.length (.of 0))],[YX 3 24 o 0],32⟩
theorem QiR(n:Nat)(g:Nat->Nat->Int)(o:List Int):QF 8 [.slz 24 0 n cO] [(24,.rowz true 3 [.int .i64] n g)] (Gl o)=( some ([0=0,n=o.length,cO=cO]++wb1 g n o)):=by kernel_rfl
def QHM:Prop:=p.ok=true/\s.ok=true/\Y9 (λi=>(l.get i).ok) l.n=true/\l.n<=1000
theorem QaI(l:Rw Edge)(hl:QHM p s l):VH (λk:Nat=>jR p s least l (JB (JS p s least l) k) k) (λk=>k<=l.n) (λk=>l.n-k) (λ_ e J=>e = .exit 0/\J=Gl (JB (JS p s least l) l.n)) 8 QSV [] (mkE prog XR) (λ_=>hnd (mkE prog XR) 0) (QI f156 0):=by
 obtain⟨h1,h2,h3,h4⟩:=hl;refine⟨λk g hk=>⟨QSB (QZu p s least l _ k g) ?_⟩⟩;have hlen:=QSs (JS p s least l) k;refine QE ?_ ?_<;>intro h
 .have h:k<l.n:=by have:=qdt h;omega
  have hw:i64.wrap ((k:Int)+1)=((k+1:Nat):Int):=(w64 (by omega) (by omega)).trans (by omega)
  refine QG (by simp;omega) (QG (by simp;omega) (QG (by simp only[okP,h1,h2,Qhm h3 h];rfl) (QE (λhb=>?_) (λhb=>?_))))
  .have e:JB (JS p s least l) (k+1)=JB (JS p s least l) k++[(k:Int)]:=by simp only[JB,JS];rw[hb]
   refine QG (by simp;omega) ⟨k+1,h,by show l.n-(k+1)<l.n-k;omega,λ_ _ h=>h,rfl,rfl,_,QjM _ _ _ _ _ _ _ _ _,?_⟩
   rw[e]
   repeat' first|exact tv|exact qRr|exact hw|refine aI ?_ ?_
   .simp
   .simp
   .exact Qjl _ _
  .have e:JB (JS p s least l) (k+1)=JB (JS p s least l) k:=by simp only[JB,JS];rw[hb]
   refine⟨k+1,h,by show l.n-(k+1)<l.n-k;omega,λ_ _ h=>h,rfl,rfl,_,QXU _ _ _ _ _ _ _ _ _,?_⟩
   rw[e]
   repeat' first|exact tv|exact qRr|exact hw|refine aI ?_ ?_
 .have:k=l.n:=by have:=qdf h;omega
  subst this;refine⟨_,⟨rfl,rfl⟩,rfl,rfl,_,QiR _ _ _,?_⟩
  repeat' first|exact tv|exact qRr|refine aI ?_ ?_
theorem Qgc(l:Rw Edge)(hl:QHM p s l)(G:Ctx)(hrd:G.rd=none)(hG:G.n=8):Q0 (mkE prog XR) G { hnd (mkE prog XR) 1 with loop:=λ_=>KF 8 [] (jR p s least l [] (0:Nat)) [(True,.exit 0,Gl (JB (JS p s least l) l.n))] } (Qn f156):=by
 refine KO (body:=QI f156 0) (QP QCO) hrd (by kernel_rfl) ?_
 refine XP (n0:=8) (QP QCO) (by omega) (λs hs=>Qz (QP QCO) 0 G _ hrd) (λs hs=>(by decide:8<=32)) ?_ (QaI p s least l hl) (s0:=0) (Nat.zero_le _) ?_
 .rintro s e J ⟨_,rfl⟩;exact(by decide:8<=32)
 .rintro e J ⟨rfl,rfl⟩;exact⟨_,qmc,trivial,rfl,rfl⟩
theorem QiP:QF 8 [.slz 24 0 o.length cO] [(24,.rowz true 3 [.int .i64] o.length λi=>QA.enc (o.getD i 0))] (Kk 8 (.slz 0 0 o.length cO) [YX 3 0 o 0])=( some [0=0,o.length=o.length,cO=cO,o.length<=o.length,QB (1:Nat) o.length (λi=>QA.enc (o.getD i (0:Int))) λi=>QA.enc (o.getD i (0:Int))]):=by kernel_rfl
def G7:WF (Qx×Edge×Int×(Rw Edge)×Unit):=λ|(p,(s,(least,(l,_))))=>(p.ok&&s.ok&&Y9 (λi=>(l.get i).ok) l.n&&decide (l.n<=1000),.slz 0 0 (JB (JS p s least l) l.n).length (.of 0),[YX 3 0 (JB (JS p s least l) l.n) 0])
def QTD:FC:=wFC G7
theorem QjV(l:(Rw Edge)):Kg (mkE prog XR) { hnd (mkE prog XR) 1 with loop:=λ_=>KF 8 [] (jR p s least l [] (0:Nat)) [(True,.exit 0,Gl (JB (JS p s least l) l.n))] } f156 (QZ.vals 0 ((p,s,least,l,()):Qx×Edge×Int×(Rw Edge)×Unit)) (QZ.blks 0 ((p,s,least,l,()):Qx×Edge×Int×(Rw Edge)×Unit)) 8 = .ak ([least=least,0=0,0=0,0=0,0=0,0=0,0=0,l.n=l.n,cO=cO,(l.n:Int)=(l.n:Int),(0:Int)=0]++waO p s++[0=0,l.n<=l.n,QB 7 l.n (λi=>QA.enc (l.get i)) λi=>QA.enc (l.get i)]) (.asm (True) (.all (λ(g0:Nat->Value)=>.leaf (.slz 24 0 (JB (JS p s least l) l.n).length cO) ([(24,.rowz true 3 [.int .i64] (JB (JS p s least l) l.n).length λi=>QA.enc ((JB (JS p s least l) l.n).getD i 0))])))):=by kernel_rfl
theorem QfY:JL (mkE prog XR) (Qn f156) 8 G7 (λx_=>{ hnd (mkE prog XR) 1 with loop:=λ_=>KF 8 [] (jR x_.1 x_.2.1 x_.2.2.1 x_.2.2.2.1 [] (0:Nat)) [(True,.exit 0,Gl (JB (JS x_.1 x_.2.1 x_.2.2.1 x_.2.2.2.1) x_.2.2.2.1.n))] }):=by
 refine⟨?_⟩;rintro⟨p,⟨s,⟨least,⟨l,⟨⟩⟩⟩⟩⟩ hp G h1 h2;exact Qgc p s least l (by simpa[G7,QHM,and_assoc]using hp) G h1 h2
theorem QX7:JH (mkE prog XR) f156 8 G7 (λx_=>{ hnd (mkE prog XR) 1 with loop:=λ_=>KF 8 [] (jR x_.1 x_.2.1 x_.2.2.1 x_.2.2.2.1 [] (0:Nat)) [(True,.exit 0,Gl (JB (JS x_.1 x_.2.1 x_.2.2.1 x_.2.2.2.1) x_.2.2.2.1.n))] }):=by
 refine⟨?_⟩;rintro⟨p,⟨s,⟨least,⟨l,⟨⟩⟩⟩⟩⟩ hp;refine⟨⟨rfl,by simp[G7,YX,Blk.own,Blk.all],rfl⟩,⟨?_⟩⟩
 rw[QjV p s least l];simp only[G7]at hp
 repeat' first|refine Qt (by with_reducible rfl) ?_|refine Qt (qlr _) ?_|refine Qt (qRr) ?_
 refine Qk λ_=>Ql λg=>⟨rfl,rfl,_,QiP _,?_⟩
 repeat' first|exact tv|exact qRr|refine aI ?_ ?_
theorem QXD:QS prog 156 QTD:=
 JY (QP QCO) func156 (by kernel_rfl) (by kernel_rfl) (by decide) QfY QX7
def qE:Tab:=Qc XR 156 QTD
theorem QIm:Qf qE:=QCO.add QXD
def Xj:Bool:=p.ok&&(s.ok&&Y9 (λi=>(l.get i).ok) l.n)
def ZH:Int:=match Xj p s l with
 | true=>(match decide (l.n>40)with|true=>3|false=>0)
 | false=>1
def VP(l:Rw Edge):List Int:=match Xj p s l&&decide (l.n<=40)with
 | true=>JB (JS p s least l) l.n
 | false=>[]
theorem QYf(e f:Int)(o q:List Int):QF 8 [.tup [.nils,.nils,vj e]] [] (Kk 8 (.tup [.slz 0 0 o.length cO,.slz 1 0 q.length cO,vi f]) [YX 3 0 o 0,YX 3 1 q 0])=( some [o.length=(0:Nat),q.length=(0:Nat),e=f,o.length=(0:Nat),q.length=(0:Nat)]):=by kernel_rfl
theorem QaE(n m:Nat)(g h:Nat->Nat->Int)(e f:Int)(o q:List Int):QF 8 [.tup [.slz 216 0 n cO,.slz 248 0 m cO,vj e]] [(216,.rowz true 3 [.int .i64] n g),(248,.rowz true 3 [.int .i64] m h)] (Kk 8 (.tup [.slz 0 0 o.length cO,.slz 1 0 q.length cO,vi f]) [YX 3 0 o 0,YX 3 1 q 0])=( some ([0=0,n=o.length,cO=cO,0=0,m=q.length,cO=cO,e=f]++wb1 g n o++[q.length<=m,QB (1:Nat) q.length h λi=>QA.enc (q.getD i (0:Int))])):=by kernel_rfl
def zg:WF (Qx×Edge×(Rw Edge)×Unit):=λ|(p,(s,(l,_)))=>(decide (l.n<=1000),.tup [.slz 0 0 (VP p s 2 l).length (.of 0),.slz 1 0 (VP p s 1 l).length (.of 0),.int false .i64 (ZH p s l)],[YX 3 0 (VP p s 2 l) 0,YX 3 1 (VP p s 1 l) 0])
def QLr:FC:=wFC zg
theorem Qc4(l:(Rw Edge)):Kg (mkE prog qE) (hnd (mkE prog qE) 0) f136 (QZ.vals 0 ((p,s,l,()):Qx×Edge×(Rw Edge)×Unit)) (QZ.blks 0 ((p,s,l,()):Qx×Edge × (Rw Edge)×Unit)) 8 = .need (true) (.br (!p.ok) (.leaf (.tup [.nils,.nils,vj 1]) ([])) (.need (true) (.br (!s.ok) (.leaf (.tup [.nils,.nils,vj 1]) ([])) (.need (decide (l.n<=l.n)&&true&&decide (l.n<=1000)) (.br (!Y9 (λi=>(l.get i).ok) l.n) (.leaf (.tup [.nils,.nils,vj 1]) ([])) (.br (decide ((l.n:Int)>40)) (.leaf (.tup [.nils,.nils,vj 3]) ([])) (.need (true&&(true&&(true&&(decide (l.n<=l.n)&&true)))&&(p.ok&&s.ok&&Y9 (λi=>(l.get i).ok) l.n&&decide (l.n<=1000))) (.need (true&&(true&&(true&&(decide (l.n<=l.n)&&true)))&&(p.ok&&s.ok&&Y9 (λi=>(l.get i).ok) l.n&&decide (l.n<=1000))) (.leaf (.tup [.slz 216 0 (JB (JS p s (2:Int) l) l.n).length cO,.slz 248 0 (JB (JS p s (1:Int) l) l.n).length cO,vj 0]) ([(216,.rowz true 3 [.int .i64] (JB (JS p s (2:Int) l) l.n).length λi=>QA.enc ((JB (JS p s (2:Int) l) l.n).getD i 0)),(248,.rowz true 3 [.int .i64] (JB (JS p s (1:Int) l) l.n).length λi=>QA.enc ((JB (JS p s (1:Int) l) l.n).getD i 0))])))))))))):=by kernel_rfl
theorem QcD:JL (mkE prog qE) (Qn f136) 8 zg (λx_=>(hnd (mkE prog qE) 0)):=by
 refine⟨?_⟩;rintro⟨p,⟨s,⟨l,⟨⟩⟩⟩⟩ hp G h1 h2;exact Qz (QP QIm) 0 G _ h1
theorem Qii:JH (mkE prog qE) f136 8 zg (λx_=>(hnd (mkE prog qE) 0)):=by
 refine⟨?_⟩;rintro⟨p,⟨s,⟨l,⟨⟩⟩⟩⟩ hp;refine⟨⟨rfl,by simp[zg,YX,Blk.own,Blk.all],rfl⟩,⟨?_⟩⟩
 rw[Qc4 p s l];simp only[zg]at hp;have hn:l.n<=1000:=qdt hp
 have no:∀ e:Int,VP p s 2 l=[]->VP p s 1 l=[]->ZH p s l=e->(QC.leaf (AV.tup [AV.nils,AV.nils,AV.int true i64 e]) []).den (ZY 8 (zg (p,s,l,())).2.1 (zg (p,s,l,())).2.2):=by
  intro e h1 h2 h3;refine⟨rfl,rfl,_,QYf _ _ _ _,?_⟩;rw[h1,h2,h3];exact⟨rfl,rfl,rfl,rfl,rfl,trivial⟩
 refine QG rfl (QE (λh=>?_) (λh=>QG rfl (QE (λh2=>?_) (λh2=>QG (by simpa using hn) (QE (λh3=>?_) (λh3=>QE (λh4=>?_) (λh4=>?_)))))))
 .have e:Xj p s l=false:=by simp[Xj]at h ⊢;simp[h]
  exact no 1 (by simp[VP,e]) (by simp[VP,e]) (by simp[ZH,e])
 .have e:Xj p s l=false:=by simp[Xj]at h2 ⊢;simp[h2]
  exact no 1 (by simp[VP,e]) (by simp[VP,e]) (by simp[ZH,e])
 .have e:Xj p s l=false:=by simp[Xj]at h3 ⊢;simp[h3]
  exact no 1 (by simp[VP,e]) (by simp[VP,e]) (by simp[ZH,e])
 .have h4:l.n>40:=by have:=qdt h4;omega
  have e1:decide (l.n>40)=true:=qde h4;have e2:decide (l.n<=40)=false:=decide_eq_false (by omega)
  have e:Xj p s l=true:=by simp[Xj]at h h2 h3 ⊢;exact⟨h,h2,h3⟩
  exact no 3 (by simp only[VP,e,e2];rfl) (by simp only[VP,e,e2];rfl) (by simp only[ZH,e,e1])
 .have h4:¬ l.n>40:=by have:=qdf h4;omega
  have e1:decide (l.n>40)=false:=decide_eq_false h4;have e2:decide (l.n<=40)=true:=qde (by omega)
  have e:Xj p s l=true:=by simp[Xj]at h h2 h3 ⊢;exact⟨h,h2,h3⟩
  have hq:(p.ok&&s.ok&&Y9 (λi=>(l.get i).ok) l.n&&decide (l.n<=1000))=true:=by simp at h h2 h3;simp[h,h2,h3,hn]
  refine QG (by simp only[hq];simp) (QG (by simp only[hq];simp) ⟨rfl,rfl,_,QaE _ _ _ _ _ _ _ _,?_⟩)
  have k2:VP p s 2 l=JB (JS p s 2 l) l.n:=by simp only[VP,e,e2];rfl
  have k1:VP p s 1 l=JB (JS p s 1 l) l.n:=by simp only[VP,e,e2];rfl
  have k3:ZH p s l=0:=by simp only[ZH,e,e1]
  rw[k1,k2,k3]
  repeat' first|exact tv|exact qRr|refine aI ?_ ?_
theorem Qbx:QS prog 136 QLr:=
 JY (QP QIm) func136 (by kernel_rfl) (by kernel_rfl) (by decide) QcD Qii
def QF4:Tab:=Qc qE 136 QLr
theorem QVb:Qf QF4:=QIm.add Qbx
structure Qb where
 up:Edge
 right:Edge
 down:Edge
 left:Edge
def Qb.ok(p:Qb):Bool:=p.up.ok&&(p.right.ok&&(p.down.ok&&p.left.ok))
instance : QA Qb where
  ks := [.int .i64,.int .i64,.int .i64,.int .i64,.int .i64,.int .i64,.int .i64,.int .i64,.int .i64,.int .i64,.int .i64,.int .i64,.int .i64,.int .i64,.int .i64,.int .i64,.int .i64,.int .i64,.int .i64,.int .i64,.int .i64,.int .i64,.int .i64,.int .i64,.int .i64,.int .i64,.int .i64,.int .i64]
  enc p j := match j with
    | 0 => p.up.kind
    | 1 => p.up.at_.lo
    | 2 => p.up.at_.hi
    | 3 => p.up.wide.lo
    | 4 => p.up.wide.hi
    | 5 => p.up.deep.lo
    | 6 => p.up.deep.hi
    | 7 => p.right.kind
    | 8 => p.right.at_.lo
    | 9 => p.right.at_.hi
    | 10 => p.right.wide.lo
    | 11 => p.right.wide.hi
    | 12 => p.right.deep.lo
    | 13 => p.right.deep.hi
    | 14 => p.down.kind
    | 15 => p.down.at_.lo
    | 16 => p.down.at_.hi
    | 17 => p.down.wide.lo
    | 18 => p.down.wide.hi
    | 19 => p.down.deep.lo
    | 20 => p.down.deep.hi
    | 21 => p.left.kind
    | 22 => p.left.at_.lo
    | 23 => p.left.at_.hi
    | 24 => p.left.wide.lo
    | 25 => p.left.wide.hi
    | 26 => p.left.deep.lo
    | _ => p.left.deep.hi
  dec f := ⟨⟨f 0,⟨f 1,f 2⟩,⟨f 3,f 4⟩,⟨f 5,f 6⟩⟩,⟨f 7,⟨f 8,f 9⟩,⟨f 10,f 11⟩,⟨f 12,f 13⟩⟩,⟨f 14,⟨f 15,f 16⟩,⟨f 17,f 18⟩,⟨f 19,f 20⟩⟩,⟨f 21,⟨f 22,f 23⟩,⟨f 24,f 25⟩,⟨f 26,f 27⟩⟩⟩
  ok _ := rfl
instance : Enc Qb where
  enc p := .agg [.int false .i64 p.up.kind,.int false .i64 p.up.at_.lo,.int false .i64 p.up.at_.hi,.int false .i64 p.up.wide.lo,.int false .i64 p.up.wide.hi,.int false .i64 p.up.deep.lo,.int false .i64 p.up.deep.hi,.int false .i64 p.right.kind,.int false .i64 p.right.at_.lo,.int false .i64 p.right.at_.hi,.int false .i64 p.right.wide.lo,.int false .i64 p.right.wide.hi,.int false .i64 p.right.deep.lo,.int false .i64 p.right.deep.hi,.int false .i64 p.down.kind,.int false .i64 p.down.at_.lo,.int false .i64 p.down.at_.hi,.int false .i64 p.down.wide.lo,.int false .i64 p.down.wide.hi,.int false .i64 p.down.deep.lo,.int false .i64 p.down.deep.hi,.int false .i64 p.left.kind,.int false .i64 p.left.at_.lo,.int false .i64 p.left.at_.hi,.int false .i64 p.left.wide.lo,.int false .i64 p.left.wide.hi,.int false .i64 p.left.deep.lo,.int false .i64 p.left.deep.hi]
  dec
    | .agg [.int _ .i64 a0,.int _ .i64 a1,.int _ .i64 a2,.int _ .i64 a3,.int _ .i64 a4,.int _ .i64 a5,.int _ .i64 a6,.int _ .i64 a7,.int _ .i64 a8,.int _ .i64 a9,.int _ .i64 a10,.int _ .i64 a11,.int _ .i64 a12,.int _ .i64 a13,.int _ .i64 a14,.int _ .i64 a15,.int _ .i64 a16,.int _ .i64 a17,.int _ .i64 a18,.int _ .i64 a19,.int _ .i64 a20,.int _ .i64 a21,.int _ .i64 a22,.int _ .i64 a23,.int _ .i64 a24,.int _ .i64 a25,.int _ .i64 a26,.int _ .i64 a27] => some ⟨⟨a0,⟨a1,a2⟩,⟨a3,a4⟩,⟨a5,a6⟩⟩,⟨a7,⟨a8,a9⟩,⟨a10,a11⟩,⟨a12,a13⟩⟩,⟨a14,⟨a15,a16⟩,⟨a17,a18⟩,⟨a19,a20⟩⟩,⟨a21,⟨a22,a23⟩,⟨a24,a25⟩,⟨a26,a27⟩⟩⟩
    | _ => none
  ok v x h := by
    split at h <;> (try (cases h; done))
    simp only[qsI]at h; subst h;exact⟨λ_=>rfl,rfl⟩
structure Puz where
 pK:Qx
 wide:Int
 high:Int
 turn:Bool
 ps:Rw Qb
instance : Qg Puz where
  val k x := .agg [.int false .i64 x.pK.length,.int false .i64 x.pK.aK,.int false .i64 x.pK.oK,.int false .i64 x.pK.dK.lo,.int false .i64 x.pK.dK.hi,.int false .i64 x.wide,.int false .i64 x.high,.bool false x.turn,Qg.val k x.ps]
  blk k x := Qg.blk k x.ps
  dec v lk := match v with
    | .agg [.int _ .i64 a,.int _ .i64 b,.int _ .i64 c,.int _ .i64 d,.int _ .i64 e,.int _ .i64 f,.int _ .i64 g,.bool _ t,s] => (match (Qg.dec s lk : Option (Bool × Rw Qb))with
      | some (p,x) => some (p,⟨⟨a,b,c,⟨d,e⟩⟩,f,g,t,x⟩)
      | none => none)
    | _ => none
  ok v lk p x h hp := by
    split at h <;> (try (cases h; done))
    split at h <;> (try (cases h; done))
    rename_i a b c d e f g t s p' x' hd;simp only[qsI,qpI]at h;obtain⟨rfl,rfl⟩ := h;obtain⟨h1,h2⟩ := Qg.ok _ _ _ _ hd hp;refine⟨λk=>⟨?_,(h1 k).2⟩,λr w hb=>?_⟩
    . have := (h1 k).1
      simp only[AV.all,AV.allL,Bool.true_and,Bool.and_true]; exact this
    . obtain⟨l,hl⟩ := h2 r w hb
      refine⟨l,λk r' hr=>⟨?_,(hl k r' hr).2⟩⟩;have := (hl k r' hr).1;simp only[AV.den,AV.denL]at this ⊢;rw[this]
def QTX:AV->Bool
 | .agg _=>true
 | _=>false
theorem QhD{v:AV}(h:QTX v=true):∃ l,v = .agg l:=by
 cases v<;>first|(cases h;done)|exact⟨_,rfl⟩
structure FnC (α:Type) (g ty:Nat) where
 x:α
instance {α : Type} [Enc α] (g ty : Nat) : Qg (FnC α g ty) where
  val k _ := .fn (.func g) [.ptr k 0 0]
  blk k x := [(k,.cellsR 0 ty (Enc.enc x.x).cells)]
  dec v lk := match v with
    | .fn (.func g') [.ptr id e j] => (match Nat.beq g' g && (Nat.beq e 0 && Nat.beq j 0)with
      | true => (match lk id with
        | some (.cellsR z ty' l) => (match Nat.beq ty' ty && Nat.beq z 0 with
          | true => (match (Enc.dec (.agg l) : Option α)with
            | some a => (match QTX (Enc.enc a)with | true => some (true,⟨a⟩) | false => none)
            | none => none)
          | false => none)
        | _ => none)
      | false => none)
    | _ => none
  ok v lk p x h _ := by
    split at h <;> (try (cases h; done))
    rename_i g' id e j;split at h <;> (try (cases h; done))
    rename_i hg;split at h <;> (try (cases h; done))
    rename_i z ty' l hlk;split at h <;> (try (cases h; done))
    rename_i hz;split at h <;> (try (cases h; done))
    rename_i a ha;split at h <;> (try (cases h; done))
    rename_i hagg;simp only[qbA]at hg hz;have hg1 := qnb hg.1;have he := qnb hg.2.1;have hj := qnb hg.2.2;have ht := qnb hz.1;have hz0 := qnb hz.2;subst hg1 he hj ht hz0;simp only[qsI,qpI]at h;obtain⟨_,rfl⟩ := h;obtain⟨k1,k2⟩ := Enc.ok _ _ ha;obtain⟨l',hl'⟩ := QhD hagg;rw[hl']at k1 k2;have hcl : (Enc.enc a).cells = l' := by rw[hl']; rfl
    have k3 : ∀ r,AV.denL r l' = AV.denL r l := λr=>by
      have := k1 r;simp only[AV.den,Value.agg.injEq]at this;exact Array.toList_inj.2 this |> λh=>by simpa using h
    refine⟨λk=>⟨by simp[AV.all,AV.allL],λq hq=>?_⟩,λr w hb=>⟨r id,λk r' hr=>⟨?_,λq hq=>?_⟩⟩⟩
    . simp only[List.mem_singleton]at hq; subst hq
      refine⟨rfl,rfl,?_⟩;show AV.allL _ (Enc.enc a).cells = true;rw[hcl]; exact k2
    . simp only[AV.den,AV.denL,hr]
    . simp only[List.mem_singleton]at hq; subst hq
      obtain⟨b1,b2,b3⟩ := hb _ _ hlk;refine⟨by rw[hr]; exact b1,by rw[hr]; exact b2,?_⟩
      show bk w (r' k).blk = some (.cells (AV.denL r' (Enc.enc a).cells).toArray _ _);rw[hr,hcl,denL_congr (p := λ_=>false) (r := r') (r' := r) (λ_ hf=>by cases hf) _ k2,k3 r]
      exact b3
