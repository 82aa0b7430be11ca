/- - -/
import Derived.Test.YtekbmehgcofnkaaGreatMo
import Derived.Test.YtekbmehgcofnkaaGreatMq
open Go.Proofs.Tryz
open Go.IntKind (i64)
set_option maxRecDepth 100000
namespace Go.Proofs.YtekbmehgcofnkaaGreat
open Go.SX
def QH(fn:Func)(k:Nat):Code:=match (K5 (Qk fn))[k]? with
 | some (.loop b)=>b
 | _ => .skip
instance : QA Edge where
  ks := [.int .i64,.int .i64,.int .i64,.int .i64,.int .i64,.int .i64,.int .i64]
  enc e j := match j with
    | 0 => e.kind
    | 1 => e.at_.lo
    | 2 => e.at_.hi
    | 3 => e.wide.lo
    | 4 => e.wide.hi
    | 5 => e.deep.lo
    | _ => e.deep.hi
  dec f := ⟨f 0,⟨f 1,f 2⟩,⟨f 3,f 4⟩,⟨f 5,f 6⟩⟩
  ok _ := rfl
structure FnK (g:Nat) where
 u:Unit
instance (g : Nat) : Enc (FnK g) where
  enc _ := .fn (.func g) []
  dec v := match v with
    | .fn (.func g') [] => (match Nat.beq g' g with | true => some ⟨()⟩ | false => none)
    | _ => none
  ok v x h := by
    split at h <;> (try (cases h; done))
    split at h <;> (try (cases h; done))
    rename_i hg;have := qnb hg;subst this;exact⟨λ_=>rfl,rfl⟩
def QP(p:Nat->Bool):Nat->Nat->Option Nat
 | 0,_=>none
 | m+1,k=>match p k with
  | true=>some k
  | false=>QP p m (k+1)
def Ku:Option Nat->Int
 | some i=>i
 | none => -1
def Yx(p:Nat->Bool)(n:Nat):Bool:=(QP (λi=>!p i) n 0).isNone
theorem jX{p:Nat->Bool}:∀{m k:Nat},QP p m k=none->∀ i,k<=i->i<k+m->p i=false
 | 0,k,_,i,h1,h2=>by omega
 | m+1,k,h,i,h1,h2=>by
  simp only[QP]at h;split at h
  .cases h
  .rename_i hk;rcases Nat.eq_or_lt_of_le h1 with rfl|hlt
   .exact hk
   .exact jX h i hlt (by omega)
theorem QbZ{p:Nat->Bool}{n:Nat}(h:Yx p n=true){i:Nat}(hi:i<n):p i=true:=by
 unfold Yx at h;rw[Option.isNone_iff_eq_none]at h;have:=jX h i (Nat.zero_le _) (by omega)
 simpa using this
theorem QJx{p:Nat->Bool}:∀{m k:Nat},(∀ i,k<=i->i<k+m->p i=false)->QP p m k=none
 | 0,_,_=>rfl
 | m+1,k,h=>by
  simp only[QP];rw[h k (qlr _) (by omega)]
  exact QJx λi h1 h2=>h i (by omega) (by omega)
def QTG:Edge×Unit->Bool×AV:=λ|(s,_)=>(true,.bool false (!s.ok))
def QQe:FC:=Kj (Kl QTG)
variable (p:Qy)(s:Edge)(l:Rw Edge)(least:Int)(o:List Int)
theorem QW9:KR (mkE prog QDM) (hnd (mkE prog QDM) 0) false f122 (KG.enc ((s,()):Edge×Unit)) [] 0=QC.need (true) (QC.leaf (AV.bool false !s.ok) ([])):=by kernel_rfl
theorem QXp:QR prog 122 QQe:=by
 refine K0 QNN 0 func122 (by kernel_rfl) (by kernel_rfl) ?_
 rintro⟨s,⟨⟩⟩ hp;rw[QW9 s];simp only[QTG,QC.den,AV.same,AV.sameL,and_true,true_and]at hp ⊢
def Yi:Tab:=Qa QDM 122 QQe
theorem QAD:Qc Yi:=QNN.add QXp
def J2(i:Nat):Bool := !(l.get i).ok
def QEj(k:Nat):JSt:=⟨19,[(0,.slz 0 0 l.n (.of 0)),(1,.fn (.func 122) []),(7,.int false .i64 l.n),(8,.int false .i64 k)],Qi.blk 0 l,8⟩
def QQW:Ex->List Nat
 | .normal=>[0,1,7,8]
 | .exit _=>[]
 | .ret=>[4]
theorem Qjd(k:Nat)(g:Nat->Value):exec (mkE prog Yi) (hnd (mkE prog Yi) 0) (QH f147 0) (JSt.inst (QEj l k) g) (Q9 [] QQW)=QC.br (decide ((↑k:Int)<(↑l.n:Int))) (QC.need (decide ((0:Int)<=(↑k:Int)/\(↑k:Int)<(↑l.n:Int))&&decide (l.n<=l.n)) (QC.need (decide (k<l.n)) (QC.need (true) (QC.br (!(l.get k).ok) (QC.leaf (AV.tup [AV.nili,AV.ptr (19:Nat) (0:Nat) (0:Nat),vi (↑k:Int)]) ([])) (QC.leaf (AV.tup [AV.nilp,AV.ptr (19:Nat) (0:Nat) (0:Nat),AV.slz (0:Nat) (0:Nat) l.n cO,AV.fn (Fn.func (122:Nat)) [],vi (↑l.n:Int),vi (i64.wrap ((↑k:Int)+(1:Int)))]) ([((0:Nat),Blk.frz [CK.int i64,CK.int i64,CK.int i64,CK.int i64,CK.int i64,CK.int i64,CK.int i64] l.n λi=>QA.enc (l.get i))])))))) (QC.leaf (AV.tup [AV.ptr (0:Nat) (0:Nat) (0:Nat),AV.ptr (19:Nat) (0:Nat) (0:Nat)]) ([])):=by kernel_rfl
def QS7(k:Nat)(e:Ex)(J:JSt):Prop:=(e = .ret/\(QP (J2 l) (l.n-k) k).isSome=true/\J=⟨19,[(4,.int false .i64 (Ku (QP (J2 l) (l.n-k) k)))],[],8⟩)∨(e = .exit 0/\QP (J2 l) (l.n-k) k=none/\J=⟨19,[],[],8⟩)
theorem QhD(k:Nat)(i:Int):QF 8 [.slz 0 0 l.n cO,.fn (.func 122) [],vi l.n,vi i] (Qi.blk 0 l) (QEj l k)=( some [0=0,l.n=l.n,cO=cO,Fn.func (122:FuncId)=Fn.func (122:FuncId),(↑l.n:Int)=(↑l.n:Int),i=(↑k:Int),l.n<=l.n, QB (7:Nat) l.n (λi=>QA.enc (l.get i)) λi=>QA.enc (l.get i)]):=by kernel_rfl
theorem Qe3(i j:Int):QF 8 [vi i] [] ⟨19,[(4,vi j)],[],8⟩=( some [i=j]):=by kernel_rfl
theorem QZD :QF 8 [] [] ⟨19,[],[],8⟩=( some []):=by kernel_rfl
theorem QdO(hl:l.n<=1000):JP (QEj l) (λk=>k<=l.n) (λk=>l.n-k) (QS7 l) 8 QQW [] (mkE prog Yi) (λ_=>hnd (mkE prog Yi) 0) (QH f147 0):=by
 refine⟨λk g hk=>⟨QRV (Qjd l k g) ?_⟩⟩;refine QE ?_ ?_<;>intro h
 .have h:k<l.n:=by have:=qdt h;omega
  obtain⟨m,hm⟩:∃ m,l.n-k=m+1:=⟨l.n-k-1,by omega⟩
  have hm':l.n-(k+1)=m:=by omega
  refine QG (by simp;omega) (QG (by simp;omega) (QG rfl (QE (λhb=>?_) (λhb=>?_))))
  .have hf:QP (J2 l) (l.n-k) k=some k:=by rw[hm,QP];unfold J2;rw[hb]
   exact⟨_,.inl ⟨rfl,by rw[hf];rfl,rfl⟩,rfl,rfl,_,Qe3 _ _,by rw[hf];exact⟨rfl,trivial⟩⟩
  .have hf:QP (J2 l) (l.n-k) k=QP (J2 l) (l.n-(k+1)) (k+1):=by rw[hm,hm',QP];unfold J2;rw[hb]
   refine⟨k+1,by omega,by show l.n-(k+1)<l.n-k;omega,λe J h=>by unfold QS7 at h ⊢;rw[hf];exact h,rfl,rfl,_,QhD _ _ _,?_⟩
   exact⟨rfl,rfl,rfl,rfl,rfl,(w64 (by omega) (by omega)).trans (by omega),qlr _,qRr,trivial⟩
 .have h:l.n<=k:=by have:=qdf h;omega
  have hf:QP (J2 l) (l.n-k) k=none:=by rw[show l.n-k=0 by omega];rfl
  exact⟨_,.inr ⟨rfl,hf,rfl⟩,rfl,rfl,_,QZD,trivial⟩
def QjW:List (Prop×Ex×JSt):=[((QP (J2 l) l.n 0).isSome=true,.ret,⟨19,[(4,.int false .i64 (Ku (QP (J2 l) l.n 0)))],[],8⟩),(QP (J2 l) l.n 0=none,.exit 0,⟨19,[],[],8⟩)]
abbrev QCn(P:Program)(l:Rw Edge):Hnd:={ hnd (mkE P Yi) 1 with loop:=λ_=>KC 8 [] (QEj l 0) (QjW l) }
theorem Qaa(hl:l.n<=1000)(G:Ctx)(hrd:G.rd=none)(hG:G.n=8):Qw (mkE prog Yi) G (QCn prog l) (Qk f147):=by
 refine KN (body:=QH f147 0) (QO QAD) hrd (by kernel_rfl) ?_
 refine Jq (n0:=8) (QO QAD) (by omega) (λs hs=>Qv (QO QAD) 0 G _ hrd) (λs hs=>qlr _) ?_ (QdO l hl) (s0:=0) (Nat.zero_le _) ?_
 .rintro s e J (⟨_,_,rfl⟩|⟨_,_,rfl⟩)<;>exact qlr _
 .rintro e J (⟨rfl,h,rfl⟩|⟨rfl,h,rfl⟩)
  .exact⟨_,qmc,h,rfl,rfl⟩
  .exact⟨_,List.mem_cons_of_mem _ qmc,h,rfl,rfl⟩
theorem Qc4(x:FnK 122):Kd (mkE prog Yi) (QCn prog l) f147 (Qb.vals 0 (l,x,())) (Qb.blks 0 (l,x,())) 8=QC.ask (0=0) (QC.ask (l.n=l.n) (QC.ask (cO=cO) (QC.ask (Fn.func (122:Nat)=Fn.func (122:FuncId)) (QC.ask ((↑l.n:Int)=(↑l.n:Int)) (QC.ask ((0:Int)=(0:Int)) (QC.ask (l.n<=l.n) (QC.ask (QB (7:Nat) l.n (λi=>QA.enc (l.get i)) λi=>QA.enc (l.get i)) (QC.both (QC.asm ((QP (J2 l) l.n (0:Nat)).isSome=true) (QC.all (λ(g0:Nat->Value)=>QC.leaf (vi (Ku (QP (J2 l) l.n (0:Nat)))) ([])))) (QC.asm (QP (J2 l) l.n (0:Nat)=none) (QC.all (λ(g1:Nat->Value)=>QC.leaf (vj (-1:Int)) ([])))))))))))):=by kernel_rfl
def QCR:WF (Rw Edge×FnK 122×Unit):=λx=>(decide (x.1.n<=1000),vi (Ku (QP (J2 x.1) x.1.n 0)),[])
def QMv:FC:=wFC QCR
theorem Qa7:JA (mkE prog Yi) (Qk f147) 8 QCR (λx=>QCn prog x.1):=
 ⟨λx hx G h1 h2=>Qaa x.1 (qdt hx) G h1 h2⟩
theorem QZw:JB (mkE prog Yi) f147 8 QCR (λx=>QCn prog x.1):=by
 refine⟨?_⟩;rintro⟨l,x,⟨⟩⟩ hp;refine⟨⟨rfl,by simp[QCR],rfl⟩,⟨?_⟩⟩
 rw[Qc4 l x];refine Qu rfl (Qu rfl (Qu rfl (Qu rfl (Qu rfl (Qu rfl (Qu (qlr _) (Qu (qRr) (Kh (Qg λh=>Qj λg=>?_) (Qg λh=>Qj λg=>?_)))))))))
 .exact KE ⟨rfl,rfl⟩ rfl
 .exact KE ⟨rfl,by show(-1:Int)=Ku (QP (J2 l) l.n 0);rw[h];rfl⟩ rfl
theorem Qex:QR prog 147 QMv:=
 JL (QO QAD) func147 (by kernel_rfl) (by kernel_rfl) (by decide) Qa7 QZw
def Wa:Tab:=Qa Yi 147 QMv
theorem QGK:Qc Wa:=QAD.add Qex
def QAu:WF ((Rw Edge)×(FnK 122)×Unit):=λ|(l,(x,_))=>(decide (l.n<=1000),.bool false (decide (Ku (QP (J2 l) l.n 0)≥0)),[])
def QS6:FC:=wFC QAu
theorem QZX(l:(Rw Edge))(x:(FnK 122)):Kd (mkE prog Wa) (hnd (mkE prog Wa) 0) f121 (Qb.vals 0 ((l,x,()):(Rw Edge)×(FnK 122)×Unit)) (Qb.blks 0 ((l,x,()):(Rw Edge)×(FnK 122)×Unit)) 8=QC.need (decide (l.n<=l.n)&&(true&&true)&&decide (l.n<=(1000:Nat))) (QC.leaf (AV.bool false (decide (Ku (QP (J2 l) l.n (0:Nat))≥(0:Int)))) ([])):=by kernel_rfl
theorem QX3:JA (mkE prog Wa) (Qk f121) 8 QAu (λx_=>(hnd (mkE prog Wa) 0)):=by
 refine⟨?_⟩;rintro⟨l,⟨x,⟨⟩⟩⟩ hp G h1 h2;exact Qv (QO QGK) 0 G _ h1
theorem QV5:JB (mkE prog Wa) f121 8 QAu (λx_=>(hnd (mkE prog Wa) 0)):=by
 refine⟨?_⟩;rintro⟨l,⟨x,⟨⟩⟩⟩ hp;refine⟨⟨rfl,by simp[QAu],rfl⟩,⟨?_⟩⟩
 rw[QZX l x];simp only[QAu]at hp;exact QG (by simpa using hp) (KE rfl rfl)
theorem Qh3:QR prog 121 QS6:=
 JL (QO QGK) func121 (by kernel_rfl) (by kernel_rfl) (by decide) QX3 QV5
def qF:Tab:=Qa Wa 121 QS6
theorem QGC:Qc qF:=QGK.add Qh3
theorem Qde:∀(o:Option Nat),(!decide (Ku o≥0))=o.isNone
 | some i=>by simp[Ku]
 | none=>rfl
def H6:WF ((Rw Edge)×Unit):=λ|(l,_)=>(decide (l.n<=1000),.bool false (Yx (λi=>(l.get i).ok) l.n),[])
def QTV:FC:=wFC H6
theorem QWC(l:(Rw Edge)):Kd (mkE prog qF) (hnd (mkE prog qF) 0) f76 (Qb.vals 0 ((l,()):(Rw Edge)×Unit)) (Qb.blks 0 ((l,()):(Rw Edge)×Unit)) 8=QC.need (decide (l.n<=l.n)&&(true&&true)&&decide (l.n<=(1000:Nat))) (QC.leaf (AV.bool false !decide (Ku (QP (J2 l) l.n (0:Nat))≥(0:Int))) ([])):=by kernel_rfl
theorem QiH:JA (mkE prog qF) (Qk f76) 8 H6 (λx_=>(hnd (mkE prog qF) 0)):=by
 refine⟨?_⟩;rintro⟨l,⟨⟩⟩ hp G h1 h2;exact Qv (QO QGC) 0 G _ h1
theorem QhX:JB (mkE prog qF) f76 8 H6 (λx_=>(hnd (mkE prog qF) 0)):=by
 refine⟨?_⟩;rintro⟨l,⟨⟩⟩ hp;refine⟨⟨rfl,by simp[H6],rfl⟩,⟨?_⟩⟩
 rw[QWC l];simp only[H6]at hp;exact QG (by simpa using hp) (KE (Qde _) rfl)
theorem QXC:QR prog 76 QTV:=
 JL (QO QGC) func76 (by kernel_rfl) (by kernel_rfl) (by decide) QiH QhX
def XB:Tab:=Qa qF 76 QTV
theorem QB1:Qc XB:=QGC.add QXC
def YO{α:Type}[QA α](ty k:Nat)(l:List α)(d:α):Nat×Blk:=(k,.rowz true ty (QA.ks α) l.length λi=>QA.enc (l.getD i d))
def K8(q:Nat->Bool):Nat->List Int
 | 0=>[]
 | k+1=>match q k with
  | true=>K8 q k++[(k:Int)]
  | false=>K8 q k
theorem QQw(q:Nat->Bool):∀ k,(K8 q k).length<=k
 | 0=>qlr _
 | k+1=>by
  have:=QQw q k;simp only[K8];split<;>simp<;>omega
def JJ(l:Rw Edge)(i:Nat):Bool:=decide (XU p s (l.get i)≥least)
def qS(l:Rw Edge)(o:List Int)(k:Int):JSt:=
 ⟨30,[(2,.int false .i64 least),(4,.ptr 8 0 0),(5,.ptr 16 0 0),(8,.slz 24 0 o.length (.of 0)),(11,.slz 3 0 l.n (.of 0)),(12,.int false .i64 l.n),(13,.int false .i64 k)],
  [(8,.cells 0 25 (Enc.enc p).cells),(16,.cells 0 55 (Enc.enc s).cells),YO 3 24 o 0]++Qi.blk 3 l,32⟩
def QQ1:Ex->List Nat
 | .normal=>[2,4,5,8,11,12,13]
 | _=>[8]
noncomputable abbrev QQu:Nat×Blk:=
  (8,.cells 0 25 [vi p.length,vi p.aK,vi p.oK,vi p.dK.lo,vi p.dK.hi])
noncomputable abbrev QTT:Nat×Blk:=
  (16,.cells 0 55 [vi s.kind,vi s.at_.lo,vi s.at_.hi,vi s.wide.lo,vi s.wide.hi,vi s.deep.lo,.int
  false .i64 s.deep.hi])
noncomputable abbrev QN3:Nat×Blk:=
  (3,.frz (List.append (waH) ([.int .i64,.int .i64,.int .i64])) l.n λi=>QA.enc (l.get i))
theorem QiY(l:Rw Edge)(o:List Int)(k:Nat)(g:Nat->Value):exec (mkE prog XB) (hnd (mkE prog XB) 0) (QH f156 0) (JSt.inst (qS p s least l o k) g) (Q9 [] QQ1) = .br (decide ((k:Int)<(l.n:Int))) (.need (decide ((0:Int)<=(k:Int)/\(k:Int)<(l.n:Int))&&decide (l.n<=l.n)) (.need (decide (k<l.n)) (.need (okP p s (l.get k)) (.br (decide (XU p s (l.get k) ≥ least)) (.need (decide (o.length<=o.length)&&(true&&decide ((o.length+1+(o.length+1) / 4+192)*8<=281474976710656/\o.length+1<=9223372036854775807))) (.leaf (.tup [.nilp,.ptr 30 0 0,vi least,.ptr 8 0 0,.ptr 16 0 0,.slz 160 0 (o.length+1) cO,.slz 3 0 l.n cO,vi (l.n:Int),vi (i64.wrap ((k:Int)+1))]) ([(QQu p),(QTT s),(160,.rowz true 3 [.int .i64] (o.length+1) (KT o.length (λi=>QA.enc (o.getD i 0)) (Ke [[vi (k:Int)]] 0))),(QN3 l)]))) (.leaf (.tup [.nilp,.ptr 30 0 0,vi least,.ptr 8 0 0,.ptr 16 0 0,.slz 24 0 o.length cO,.slz 3 0 l.n cO,vi (l.n:Int),vi (i64.wrap ((k:Int)+1))]) ([(QQu p),(QTT s),(24,.rowz true 3 [.int .i64] o.length λi=>QA.enc (o.getD i 0)),(QN3 l)])))))) (.leaf (.tup [.ptr 0 0 0,.ptr 30 0 0,.slz 24 0 o.length cO]) ([(24,.rowz true 3 [.int .i64] o.length λi=>QA.enc (o.getD i 0))])):=by kernel_rfl
theorem QXL(x:Int):QB 1 (o++[x]).length (KT o.length (λi=>QA.enc (o.getD i 0)) (Ke [[AV.int false i64 x]] 0)) (λi=>QA.enc ((o++[x]).getD i 0)):=by
 intro i hi;refine⟨?_,trivial⟩;rw[Yh];rw[List.length_append,List.length_singleton]at hi;split
 .rename_i h;show o.getD i 0=(o++[x]).getD i 0;rw[List.getD_eq_getElem?_getD,List.getD_eq_getElem?_getD,List.getElem?_append_left h]
 .rename_i h;have:i=o.length:=by omega
  subst this;show x=(o++[x]).getD o.length 0;simp
noncomputable abbrev waM(p:Qy)(s:Edge):List Prop:=[p.length=p.length,p.aK=p.aK,p.oK=p.oK,p.dK.lo=p.dK.lo,p.dK.hi=p.dK.hi,s.kind=s.kind,s.at_.lo=s.at_.lo,s.at_.hi=s.at_.hi,s.wide.lo=s.wide.lo,s.wide.hi=s.wide.hi,s.deep.lo=s.deep.lo,s.deep.hi=s.deep.hi]
theorem QZt(l:Rw Edge)(n:Nat)(g:Nat->Nat->Int)(i:Int)(o:List Int)(k:Int):QF 8 [vi least,.ptr 8 0 0,.ptr 16 0 0,.slz 24 0 n cO,.slz 3 0 l.n cO,vi l.n,vi i] ([(8,.cells 0 25 (Enc.enc p).cells),(16,.cells 0 55 (Enc.enc s).cells),(24,.rowz true 3 [.int .i64] n g)]++Qi.blk 3 l) (qS p s least l o k)=( some ([least=least,0=0,0=0,0=0,0=0,0=0,n=o.length,cO=cO,0=0,l.n=l.n,cO=cO,(↑l.n:Int)=(↑l.n:Int),i=k]++waM p s++[o.length<=n,QB (1:Nat) o.length g λi=>QA.enc (o.getD i (0:Int)),l.n<=l.n,QB (7:Nat) l.n (λi=>QA.enc (l.get i)) λi=>QA.enc (l.get i)])):=by kernel_rfl
theorem Qjk(l:Rw Edge)(n:Nat)(g:Nat->Nat->Int)(i:Int)(o:List Int)(k:Int):QF 8 [vi least,.ptr 8 0 0,.ptr 16 0 0,.slz 160 0 n cO,.slz 3 0 l.n cO,vi l.n,vi i] ([(8,.cells 0 25 (Enc.enc p).cells),(16,.cells 0 55 (Enc.enc s).cells),(160,.rowz true 3 [.int .i64] n g)]++Qi.blk 3 l) (qS p s least l o k)=( some ([least=least,0=0,0=0,0=0,0=0,0=0,n=o.length,cO=cO,0=0,l.n=l.n,cO=cO,(↑l.n:Int)=(↑l.n:Int),i=k]++waM p s++[o.length<=n,QB (1:Nat) o.length g λi=>QA.enc (o.getD i (0:Int)),l.n<=l.n,QB (7:Nat) l.n (λi=>QA.enc (l.get i)) λi=>QA.enc (l.get i)])):=by kernel_rfl
def zC:JSt:=⟨30,[(8,.slz 24 0 o.length (.of 0))],[YO 3 24 o 0],32⟩
theorem QbH(n:Nat)(g:Nat->Nat->Int)(o:List Int):QF 8 [.slz 24 0 n cO] [(24,.rowz true 3 [.int .i64] n g)] (zC o)=( some [0=0,n=o.length,cO=cO,o.length<=n,QB (1:Nat) o.length g λi=>QA.enc (o.getD i (0:Int))]):=by kernel_rfl
def QIT:Prop:=p.ok=true/\s.ok=true/\Yx (λi=>(l.get i).ok) l.n=true/\l.n<=1000
theorem QfV(l:Rw Edge)(hl:QIT p s l):JP (λk:Nat=>qS p s least l (K8 (JJ p s least l) k) k) (λk=>k<=l.n) (λk=>l.n-k) (λ_ e J=>e = .exit 0/\J=zC (K8 (JJ p s least l) l.n)) 8 QQ1 [] (mkE prog XB) (λ_=>hnd (mkE prog XB) 0) (QH f156 0):=by
 obtain⟨h1,h2,h3,h4⟩:=hl;refine⟨λk g hk=>⟨QRV (QiY p s least l _ k g) ?_⟩⟩;have hlen:=QQw (JJ p s least l) k;refine QE ?_ ?_<;>intro h
 .have h:k<l.n:=by have:=qdt h;omega
  have hw:i64.wrap ((k:Int)+1)=((k+1:Nat):Int):=(w64 (by omega) (by omega)).trans (by omega)
  refine QG (by simp;omega) (QG (by simp;omega) (QG (by simp only[okP,h1,h2,QbZ h3 h];rfl) (QE (λhb=>?_) (λhb=>?_))))
  .have e:K8 (JJ p s least l) (k+1)=K8 (JJ p s least l) k++[(k:Int)]:=by simp only[K8,JJ];rw[hb]
   refine QG (by simp;omega) ⟨k+1,h,by show l.n-(k+1)<l.n-k;omega,λ_ _ h=>h,rfl,rfl,_,Qjk _ _ _ _ _ _ _ _ _,?_⟩
   rw[e]
   repeat' first|exact tv|exact qRr|exact hw|refine aI ?_ ?_
   .simp
   .simp
   .exact QXL _ _
  .have e:K8 (JJ p s least l) (k+1)=K8 (JJ p s least l) k:=by simp only[K8,JJ];rw[hb]
   refine⟨k+1,h,by show l.n-(k+1)<l.n-k;omega,λ_ _ h=>h,rfl,rfl,_,QZt _ _ _ _ _ _ _ _ _,?_⟩
   rw[e]
   repeat' first|exact tv|exact qRr|exact hw|refine aI ?_ ?_
 .have:k=l.n:=by have:=qdf h;omega
  subst this;refine⟨_,⟨rfl,rfl⟩,rfl,rfl,_,QbH _ _ _,?_⟩
  repeat' first|exact tv|exact qRr|refine aI ?_ ?_
theorem Qdd(l:Rw Edge)(hl:QIT p s l)(G:Ctx)(hrd:G.rd=none)(hG:G.n=8):Qw (mkE prog XB) G { hnd (mkE prog XB) 1 with loop:=λ_=>KC 8 [] (qS p s least l [] (0:Nat)) [(True,.exit 0,zC (K8 (JJ p s least l) l.n))] } (Qk f156):=by
 refine KN (body:=QH f156 0) (QO QB1) hrd (by kernel_rfl) ?_
 refine Jq (n0:=8) (QO QB1) (by omega) (λs hs=>Qv (QO QB1) 0 G _ hrd) (λs hs=>(by decide:8<=32)) ?_ (QfV p s least l hl) (s0:=0) (Nat.zero_le _) ?_
 .rintro s e J ⟨_,rfl⟩;exact(by decide:8<=32)
 .rintro e J ⟨rfl,rfl⟩;exact⟨_,qmc,trivial,rfl,rfl⟩
theorem QXu:QF 8 [.slz 24 0 o.length cO] [(24,.rowz true 3 [.int .i64] o.length λi=>QA.enc (o.getD i 0))] (KW 8 (.slz 0 0 o.length cO) [YO 3 0 o 0])=( some [0=0,o.length=o.length,cO=cO,o.length<=o.length,QB (1:Nat) o.length (λi=>QA.enc (o.getD i (0:Int))) λi=>QA.enc (o.getD i (0:Int))]):=by kernel_rfl
def Gm:WF (Qy×Edge×Int×(Rw Edge)×Unit):=λ|(p,(s,(least,(l,_))))=>(p.ok&&s.ok&&Yx (λi=>(l.get i).ok) l.n&&decide (l.n<=1000),.slz 0 0 (K8 (JJ p s least l) l.n).length (.of 0),[YO 3 0 (K8 (JJ p s least l) l.n) 0])
def QOl:FC:=wFC Gm
theorem QVT(l:(Rw Edge)):Kd (mkE prog XB) { hnd (mkE prog XB) 1 with loop:=λ_=>KC 8 [] (qS p s least l [] (0:Nat)) [(True,.exit 0,zC (K8 (JJ p s least l) l.n))] } f156 (Qb.vals 0 ((p,s,least,l,()):Qy×Edge×Int×(Rw Edge)×Unit)) (Qb.blks 0 ((p,s,least,l,()):Qy×Edge×Int×(Rw Edge)×Unit)) 8 = .ak ([least=least,0=0,0=0,0=0,0=0,0=0,0=0,l.n=l.n,cO=cO,(l.n:Int)=(l.n:Int),(0:Int)=0]++waM p s++[0=0,l.n<=l.n,QB 7 l.n (λi=>QA.enc (l.get i)) λi=>QA.enc (l.get i)]) (.asm (True) (.all (λ(g0:Nat->Value)=>.leaf (.slz 24 0 (K8 (JJ p s least l) l.n).length cO) ([(24,.rowz true 3 [.int .i64] (K8 (JJ p s least l) l.n).length λi=>QA.enc ((K8 (JJ p s least l) l.n).getD i 0))])))):=by kernel_rfl
theorem QXy:JA (mkE prog XB) (Qk f156) 8 Gm (λx_=>{ hnd (mkE prog XB) 1 with loop:=λ_=>KC 8 [] (qS x_.1 x_.2.1 x_.2.2.1 x_.2.2.2.1 [] (0:Nat)) [(True,.exit 0,zC (K8 (JJ x_.1 x_.2.1 x_.2.2.1 x_.2.2.2.1) x_.2.2.2.1.n))] }):=by
 refine⟨?_⟩;rintro⟨p,⟨s,⟨least,⟨l,⟨⟩⟩⟩⟩⟩ hp G h1 h2;exact Qdd p s least l (by simpa[Gm,QIT,and_assoc]using hp) G h1 h2
theorem Qha:JB (mkE prog XB) f156 8 Gm (λx_=>{ hnd (mkE prog XB) 1 with loop:=λ_=>KC 8 [] (qS x_.1 x_.2.1 x_.2.2.1 x_.2.2.2.1 [] (0:Nat)) [(True,.exit 0,zC (K8 (JJ x_.1 x_.2.1 x_.2.2.1 x_.2.2.2.1) x_.2.2.2.1.n))] }):=by
 refine⟨?_⟩;rintro⟨p,⟨s,⟨least,⟨l,⟨⟩⟩⟩⟩⟩ hp;refine⟨⟨rfl,by simp[Gm,YO,Blk.own,Blk.all],rfl⟩,⟨?_⟩⟩
 rw[QVT p s least l];simp only[Gm]at hp
 repeat' first|refine Qu (by with_reducible rfl) ?_|refine Qu (qlr _) ?_|refine Qu (qRr) ?_
 refine Qg λ_=>Qj λg=>⟨rfl,rfl,_,QXu _,?_⟩
 repeat' first|exact tv|exact qRr|refine aI ?_ ?_
theorem QeU:QR prog 156 QOl:=
 JL (QO QB1) func156 (by kernel_rfl) (by kernel_rfl) (by decide) QXy Qha
def qG:Tab:=Qa XB 156 QOl
theorem QHM:Qc qG:=QB1.add QeU
def XL:Bool:=p.ok&&(s.ok&&Yx (λi=>(l.get i).ok) l.n)
def Yj:Int:=match XL p s l with
 | true=>(match decide (l.n>40)with|true=>3|false=>0)
 | false=>1
def VF(l:Rw Edge):List Int:=match XL p s l&&decide (l.n<=40)with
 | true=>K8 (JJ p s least l) l.n
 | false=>[]
theorem QeJ(e f:Int)(o q:List Int):QF 8 [.tup [.nils,.nils,vj e]] [] (KW 8 (.tup [.slz 0 0 o.length cO,.slz 1 0 q.length cO,vi f]) [YO 3 0 o 0,YO 3 1 q 0])=( some [o.length=(0:Nat),q.length=(0:Nat),e=f,o.length=(0:Nat),q.length=(0:Nat)]):=by kernel_rfl
theorem QbC(n m:Nat)(g h:Nat->Nat->Int)(e f:Int)(o q:List Int):QF 8 [.tup [.slz 216 0 n cO,.slz 248 0 m cO,vj e]] [(216,.rowz true 3 [.int .i64] n g),(248,.rowz true 3 [.int .i64] m h)] (KW 8 (.tup [.slz 0 0 o.length cO,.slz 1 0 q.length cO,vi f]) [YO 3 0 o 0,YO 3 1 q 0])=( some [0=0,n=o.length,cO=cO,0=0,m=q.length,cO=cO,e=f,o.length<=n,QB (1:Nat) o.length g λi=>QA.enc (o.getD i (0:Int)),q.length<=m,QB (1:Nat) q.length h λi=>QA.enc (q.getD i (0:Int))]):=by kernel_rfl
def js:WF (Qy×Edge×(Rw Edge)×Unit):=λ|(p,(s,(l,_)))=>(decide (l.n<=1000),.tup [.slz 0 0 (VF p s 2 l).length (.of 0),.slz 1 0 (VF p s 1 l).length (.of 0),.int false .i64 (Yj p s l)],[YO 3 0 (VF p s 2 l) 0,YO 3 1 (VF p s 1 l) 0])
def QLc:FC:=wFC js
theorem QeE(l:(Rw Edge)):Kd (mkE prog qG) (hnd (mkE prog qG) 0) f136 (Qb.vals 0 ((p,s,l,()):Qy×Edge×(Rw Edge)×Unit)) (Qb.blks 0 ((p,s,l,()):Qy×Edge × (Rw Edge)×Unit)) 8 = .need (true) (.br (!p.ok) (.leaf (.tup [.nils,.nils,vj 1]) ([])) (.need (true) (.br (!s.ok) (.leaf (.tup [.nils,.nils,vj 1]) ([])) (.need (decide (l.n<=l.n)&&true&&decide (l.n<=1000)) (.br (!Yx (λi=>(l.get i).ok) l.n) (.leaf (.tup [.nils,.nils,vj 1]) ([])) (.br (decide ((l.n:Int)>40)) (.leaf (.tup [.nils,.nils,vj 3]) ([])) (.need (true&&(true&&(true&&(decide (l.n<=l.n)&&true)))&&(p.ok&&s.ok&&Yx (λi=>(l.get i).ok) l.n&&decide (l.n<=1000))) (.need (true&&(true&&(true&&(decide (l.n<=l.n)&&true)))&&(p.ok&&s.ok&&Yx (λi=>(l.get i).ok) l.n&&decide (l.n<=1000))) (.leaf (.tup [.slz 216 0 (K8 (JJ p s (2:Int) l) l.n).length cO,.slz 248 0 (K8 (JJ p s (1:Int) l) l.n).length cO,vj 0]) ([(216,.rowz true 3 [.int .i64] (K8 (JJ p s (2:Int) l) l.n).length λi=>QA.enc ((K8 (JJ p s (2:Int) l) l.n).getD i 0)),(248,.rowz true 3 [.int .i64] (K8 (JJ p s (1:Int) l) l.n).length λi=>QA.enc ((K8 (JJ p s (1:Int) l) l.n).getD i 0))])))))))))):=by kernel_rfl
theorem Qig:JA (mkE prog qG) (Qk f136) 8 js (λx_=>(hnd (mkE prog qG) 0)):=by
 refine⟨?_⟩;rintro⟨p,⟨s,⟨l,⟨⟩⟩⟩⟩ hp G h1 h2;exact Qv (QO QHM) 0 G _ h1
theorem QgX:JB (mkE prog qG) f136 8 js (λx_=>(hnd (mkE prog qG) 0)):=by
 refine⟨?_⟩;rintro⟨p,⟨s,⟨l,⟨⟩⟩⟩⟩ hp;refine⟨⟨rfl,by simp[js,YO,Blk.own,Blk.all],rfl⟩,⟨?_⟩⟩
 rw[QeE p s l];simp only[js]at hp;have hn:l.n<=1000:=qdt hp
 have no:∀ e:Int,VF p s 2 l=[]->VF p s 1 l=[]->Yj p s l=e->(QC.leaf (AV.tup [AV.nils,AV.nils,AV.int true i64 e]) []).den (q9 8 (js (p,s,l,())).2.1 (js (p,s,l,())).2.2):=by
  intro e h1 h2 h3;refine⟨rfl,rfl,_,QeJ _ _ _ _,?_⟩;rw[h1,h2,h3];exact⟨rfl,rfl,rfl,rfl,rfl,trivial⟩
 refine QG rfl (QE (λh=>?_) (λh=>QG rfl (QE (λh2=>?_) (λh2=>QG (by simpa using hn) (QE (λh3=>?_) (λh3=>QE (λh4=>?_) (λh4=>?_)))))))
 .have e:XL p s l=false:=by simp[XL]at h ⊢;simp[h]
  exact no 1 (by simp[VF,e]) (by simp[VF,e]) (by simp[Yj,e])
 .have e:XL p s l=false:=by simp[XL]at h2 ⊢;simp[h2]
  exact no 1 (by simp[VF,e]) (by simp[VF,e]) (by simp[Yj,e])
 .have e:XL p s l=false:=by simp[XL]at h3 ⊢;simp[h3]
  exact no 1 (by simp[VF,e]) (by simp[VF,e]) (by simp[Yj,e])
 .have h4:l.n>40:=by have:=qdt h4;omega
  have e1:decide (l.n>40)=true:=qde h4;have e2:decide (l.n<=40)=false:=decide_eq_false (by omega)
  have e:XL p s l=true:=by simp[XL]at h h2 h3 ⊢;exact⟨h,h2,h3⟩
  exact no 3 (by simp only[VF,e,e2];rfl) (by simp only[VF,e,e2];rfl) (by simp only[Yj,e,e1])
 .have h4:¬ l.n>40:=by have:=qdf h4;omega
  have e1:decide (l.n>40)=false:=decide_eq_false h4;have e2:decide (l.n<=40)=true:=qde (by omega)
  have e:XL p s l=true:=by simp[XL]at h h2 h3 ⊢;exact⟨h,h2,h3⟩
  have hq:(p.ok&&s.ok&&Yx (λi=>(l.get i).ok) l.n&&decide (l.n<=1000))=true:=by simp at h h2 h3;simp[h,h2,h3,hn]
  refine QG (by simp only[hq];simp) (QG (by simp only[hq];simp) ⟨rfl,rfl,_,QbC _ _ _ _ _ _ _ _,?_⟩)
  have k2:VF p s 2 l=K8 (JJ p s 2 l) l.n:=by simp only[VF,e,e2];rfl
  have k1:VF p s 1 l=K8 (JJ p s 1 l) l.n:=by simp only[VF,e,e2];rfl
  have k3:Yj p s l=0:=by simp only[Yj,e,e1]
  rw[k1,k2,k3]
  repeat' first|exact tv|exact qRr|refine aI ?_ ?_
theorem QVc:QR prog 136 QLc:=
 JL (QO QHM) func136 (by kernel_rfl) (by kernel_rfl) (by decide) Qig QgX
def QEN:Tab:=Qa qG 136 QLc
theorem QRv:Qc QEN:=QHM.add QVc
structure QY where
 up:Edge
 right:Edge
 down:Edge
 left:Edge
def QY.ok(p:QY):Bool:=p.up.ok&&(p.right.ok&&(p.down.ok&&p.left.ok))
instance : QA QY where
  ks := [.int .i64,.int .i64,.int .i64,.int .i64,.int .i64,.int .i64,.int .i64,.int .i64,.int .i64,.int .i64,.int .i64,.int .i64,.int .i64,.int .i64,.int .i64,.int .i64,.int .i64,.int .i64,.int .i64,.int .i64,.int .i64,.int .i64,.int .i64,.int .i64,.int .i64,.int .i64,.int .i64,.int .i64]
  enc p j := match j with
    | 0 => p.up.kind
    | 1 => p.up.at_.lo
    | 2 => p.up.at_.hi
    | 3 => p.up.wide.lo
    | 4 => p.up.wide.hi
    | 5 => p.up.deep.lo
    | 6 => p.up.deep.hi
    | 7 => p.right.kind
    | 8 => p.right.at_.lo
    | 9 => p.right.at_.hi
    | 10 => p.right.wide.lo
    | 11 => p.right.wide.hi
    | 12 => p.right.deep.lo
    | 13 => p.right.deep.hi
    | 14 => p.down.kind
    | 15 => p.down.at_.lo
    | 16 => p.down.at_.hi
    | 17 => p.down.wide.lo
    | 18 => p.down.wide.hi
    | 19 => p.down.deep.lo
    | 20 => p.down.deep.hi
    | 21 => p.left.kind
    | 22 => p.left.at_.lo
    | 23 => p.left.at_.hi
    | 24 => p.left.wide.lo
    | 25 => p.left.wide.hi
    | 26 => p.left.deep.lo
    | _ => p.left.deep.hi
  dec f := ⟨⟨f 0,⟨f 1,f 2⟩,⟨f 3,f 4⟩,⟨f 5,f 6⟩⟩,⟨f 7,⟨f 8,f 9⟩,⟨f 10,f 11⟩,⟨f 12,f 13⟩⟩,⟨f 14,⟨f 15,f 16⟩,⟨f 17,f 18⟩,⟨f 19,f 20⟩⟩,⟨f 21,⟨f 22,f 23⟩,⟨f 24,f 25⟩,⟨f 26,f 27⟩⟩⟩
  ok _ := rfl
instance : Enc QY where
  enc p := .agg [.int false .i64 p.up.kind,.int false .i64 p.up.at_.lo,.int false .i64 p.up.at_.hi,.int false .i64 p.up.wide.lo,.int false .i64 p.up.wide.hi,.int false .i64 p.up.deep.lo,.int false .i64 p.up.deep.hi,.int false .i64 p.right.kind,.int false .i64 p.right.at_.lo,.int false .i64 p.right.at_.hi,.int false .i64 p.right.wide.lo,.int false .i64 p.right.wide.hi,.int false .i64 p.right.deep.lo,.int false .i64 p.right.deep.hi,.int false .i64 p.down.kind,.int false .i64 p.down.at_.lo,.int false .i64 p.down.at_.hi,.int false .i64 p.down.wide.lo,.int false .i64 p.down.wide.hi,.int false .i64 p.down.deep.lo,.int false .i64 p.down.deep.hi,.int false .i64 p.left.kind,.int false .i64 p.left.at_.lo,.int false .i64 p.left.at_.hi,.int false .i64 p.left.wide.lo,.int false .i64 p.left.wide.hi,.int false .i64 p.left.deep.lo,.int false .i64 p.left.deep.hi]
  dec
    | .agg [.int _ .i64 a0,.int _ .i64 a1,.int _ .i64 a2,.int _ .i64 a3,.int _ .i64 a4,.int _ .i64 a5,.int _ .i64 a6,.int _ .i64 a7,.int _ .i64 a8,.int _ .i64 a9,.int _ .i64 a10,.int _ .i64 a11,.int _ .i64 a12,.int _ .i64 a13,.int _ .i64 a14,.int _ .i64 a15,.int _ .i64 a16,.int _ .i64 a17,.int _ .i64 a18,.int _ .i64 a19,.int _ .i64 a20,.int _ .i64 a21,.int _ .i64 a22,.int _ .i64 a23,.int _ .i64 a24,.int _ .i64 a25,.int _ .i64 a26,.int _ .i64 a27] => some ⟨⟨a0,⟨a1,a2⟩,⟨a3,a4⟩,⟨a5,a6⟩⟩,⟨a7,⟨a8,a9⟩,⟨a10,a11⟩,⟨a12,a13⟩⟩,⟨a14,⟨a15,a16⟩,⟨a17,a18⟩,⟨a19,a20⟩⟩,⟨a21,⟨a22,a23⟩,⟨a24,a25⟩,⟨a26,a27⟩⟩⟩
    | _ => none
  ok v x h := by
    split at h <;> (try (cases h; done))
    simp only[qsI]at h; subst h;exact⟨λ_=>rfl,rfl⟩
structure Puz where
 pK:Qy
 wide:Int
 high:Int
 turn:Bool
 ps:Rw QY
instance : Qi Puz where
  val k x := .agg [.int false .i64 x.pK.length,.int false .i64 x.pK.aK,.int false .i64 x.pK.oK,.int false .i64 x.pK.dK.lo,.int false .i64 x.pK.dK.hi,.int false .i64 x.wide,.int false .i64 x.high,.bool false x.turn,Qi.val k x.ps]
  blk k x := Qi.blk k x.ps
  dec v lk := match v with
    | .agg [.int _ .i64 a,.int _ .i64 b,.int _ .i64 c,.int _ .i64 d,.int _ .i64 e,.int _ .i64 f,.int _ .i64 g,.bool _ t,s] => (match (Qi.dec s lk : Option (Bool × Rw QY))with
      | some (p,x) => some (p,⟨⟨a,b,c,⟨d,e⟩⟩,f,g,t,x⟩)
      | none => none)
    | _ => none
  ok v lk p x h hp := by
    split at h <;> (try (cases h; done))
    split at h <;> (try (cases h; done))
    rename_i a b c d e f g t s p' x' hd;simp only[qsI,qpI]at h;obtain⟨rfl,rfl⟩ := h;obtain⟨h1,h2⟩ := Qi.ok _ _ _ _ hd hp;refine⟨λk=>⟨?_,(h1 k).2⟩,λr w hb=>?_⟩
    . have := (h1 k).1
      simp only[AV.all,AV.allL,Bool.true_and,Bool.and_true]; exact this
    . obtain⟨l,hl⟩ := h2 r w hb
      refine⟨l,λk r' hr=>⟨?_,(hl k r' hr).2⟩⟩;have := (hl k r' hr).1;simp only[AV.den,AV.denL]at this ⊢;rw[this]
def QS9:AV->Bool
 | .agg _=>true
 | _=>false
theorem QWP{v:AV}(h:QS9 v=true):∃ l,v = .agg l:=by
 cases v<;>first|(cases h;done)|exact⟨_,rfl⟩
structure FnC (α:Type) (g ty:Nat) where
 x:α
instance {α : Type} [Enc α] (g ty : Nat) : Qi (FnC α g ty) where
  val k _ := .fn (.func g) [.ptr k 0 0]
  blk k x := [(k,.cellsR 0 ty (Enc.enc x.x).cells)]
  dec v lk := match v with
    | .fn (.func g') [.ptr id e j] => (match Nat.beq g' g && (Nat.beq e 0 && Nat.beq j 0)with
      | true => (match lk id with
        | some (.cellsR z ty' l) => (match Nat.beq ty' ty && Nat.beq z 0 with
          | true => (match (Enc.dec (.agg l) : Option α)with
            | some a => (match QS9 (Enc.enc a)with | true => some (true,⟨a⟩) | false => none)
            | none => none)
          | false => none)
        | _ => none)
      | false => none)
    | _ => none
  ok v lk p x h _ := by
    split at h <;> (try (cases h; done))
    rename_i g' id e j;split at h <;> (try (cases h; done))
    rename_i hg;split at h <;> (try (cases h; done))
    rename_i z ty' l hlk;split at h <;> (try (cases h; done))
    rename_i hz;split at h <;> (try (cases h; done))
    rename_i a ha;split at h <;> (try (cases h; done))
    rename_i hagg;simp only[qbA]at hg hz;have hg1 := qnb hg.1;have he := qnb hg.2.1;have hj := qnb hg.2.2;have ht := qnb hz.1;have hz0 := qnb hz.2;subst hg1 he hj ht hz0;simp only[qsI,qpI]at h;obtain⟨_,rfl⟩ := h;obtain⟨k1,k2⟩ := Enc.ok _ _ ha;obtain⟨l',hl'⟩ := QWP hagg;rw[hl']at k1 k2;have hcl : (Enc.enc a).cells = l' := by rw[hl']; rfl
    have k3 : ∀ r,AV.denL r l' = AV.denL r l := λr=>by
      have := k1 r;simp only[AV.den,Value.agg.injEq]at this;exact Array.toList_inj.2 this |> λh=>by simpa using h
    refine⟨λk=>⟨by simp[AV.all,AV.allL],λq hq=>?_⟩,λr w hb=>⟨r id,λk r' hr=>⟨?_,λq hq=>?_⟩⟩⟩
    . simp only[List.mem_singleton]at hq; subst hq
      refine⟨rfl,rfl,?_⟩;show AV.allL _ (Enc.enc a).cells = true;rw[hcl]; exact k2
    . simp only[AV.den,AV.denL,hr]
    . simp only[List.mem_singleton]at hq; subst hq
      obtain⟨b1,b2,b3⟩ := hb _ _ hlk;refine⟨by rw[hr]; exact b1,by rw[hr]; exact b2,?_⟩
      show bk w (r' k).blk = some (.cells (AV.denL r' (Enc.enc a).cells).toArray _ _);rw[hr,hcl,denL_congr (p := λ_=>false) (r := r') (r' := r) (λ_ hf=>by cases hf) _ k2,k3 r]
      exact b3
