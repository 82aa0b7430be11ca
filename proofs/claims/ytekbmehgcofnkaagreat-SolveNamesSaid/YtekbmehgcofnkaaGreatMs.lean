/- - -/
import Derived.Test.YtekbmehgcofnkaaGreatMp
import Derived.Test.YtekbmehgcofnkaaGreatMr
open Go.Proofs.Tryz
open Go.IntKind (i64)
set_option maxRecDepth 100000
namespace Go.Proofs.YtekbmehgcofnkaaGreat
open Go.SX
def QI(fn:Func)(k:Nat):Code:=match (Kz (Ql fn))[k]? with
 | some (.loop b)=>b
 | _ => .skip
instance : QA Edge where
  ks := [.int .i64,.int .i64,.int .i64,.int .i64,.int .i64,.int .i64,.int .i64]
  enc e j := match j with
    | 0 => e.kind
    | 1 => e.at_.lo
    | 2 => e.at_.hi
    | 3 => e.wide.lo
    | 4 => e.wide.hi
    | 5 => e.deep.lo
    | _ => e.deep.hi
  dec f := ⟨f 0,⟨f 1,f 2⟩,⟨f 3,f 4⟩,⟨f 5,f 6⟩⟩
  ok _ := rfl
structure FnK (g:Nat) where
 u:Unit
instance (g : Nat) : Enc (FnK g) where
  enc _ := .fn (.func g) []
  dec v := match v with
    | .fn (.func g') [] => (match Nat.beq g' g with | true => some ⟨()⟩ | false => none)
    | _ => none
  ok v x h := by
    split at h <;> (try (cases h; done))
    split at h <;> (try (cases h; done))
    rename_i hg;have := qnb hg;subst this;exact⟨λ_=>rfl,rfl⟩
def QU(p:Nat->Bool):Nat->Nat->Option Nat
 | 0,_=>none
 | m+1,k=>match p k with
  | true=>some k
  | false=>QU p m (k+1)
def Kj:Option Nat->Int
 | some i=>i
 | none => -1
def Ye(p:Nat->Bool)(n:Nat):Bool:=(QU (λi=>!p i) n 0).isNone
theorem QEE{p:Nat->Bool}:∀{m k:Nat},QU p m k=none->∀ i,k<=i->i<k+m->p i=false
 | 0,k,_,i,h1,h2=>by omega
 | m+1,k,h,i,h1,h2=>by
  simp only[QU]at h;split at h
  .cases h
  .rename_i hk;rcases Nat.eq_or_lt_of_le h1 with rfl|hlt
   .exact hk
   .exact QEE h i hlt (by omega)
theorem Qdu{p:Nat->Bool}{n:Nat}(h:Ye p n=true){i:Nat}(hi:i<n):p i=true:=by
 unfold Ye at h;rw[Option.isNone_iff_eq_none]at h;have:=QEE h i (Nat.zero_le _) (by omega)
 simpa using this
theorem QPk{p:Nat->Bool}:∀{m k:Nat},(∀ i,k<=i->i<k+m->p i=false)->QU p m k=none
 | 0,_,_=>rfl
 | m+1,k,h=>by
  simp only[QU];rw[h k (qlr _) (by omega)]
  exact QPk λi h1 h2=>h i (by omega) (by omega)
def QPK:Edge×Unit->Bool×AV:=λ|(s,_)=>(true,.bool false (!s.ok))
def QSo:FC:=Kb (Kh QPK)
variable (p:Q0)(s:Edge)(l:Rw Edge)(least:Int)(o:List Int)
theorem Qao:KW (mkE prog QFM) (hnd (mkE prog QFM) 0) false f122 (Q3.enc ((s,()):Edge×Unit)) [] 0=QC.need (true) (QC.leaf (AV.bool false !s.ok) ([])):=by kernel_rfl
theorem Qbb:QS prog 122 QSo:=by
 refine K5 QSz 0 func122 (by kernel_rfl) (by kernel_rfl) ?_
 rintro⟨s,⟨⟩⟩ hp;rw[Qao s];simp only[QPK,QC.den,AV.same,AV.sameL,and_true,true_and]at hp ⊢
def Y2:Tab:=Qa QFM 122 QSo
theorem QBv:Qd Y2:=QSz.add Qbb
def Jz(i:Nat):Bool := !(l.get i).ok
def QCt(k:Nat):JSt:=⟨19,[(0,.slz 0 0 l.n (.of 0)),(1,.fn (.func 122) []),(7,.int false .i64 l.n),(8,.int false .i64 k)],Qm.blk 0 l,8⟩
def QTI:Ex->List Nat
 | .normal=>[0,1,7,8]
 | .exit _=>[]
 | .ret=>[4]
theorem QYA(k:Nat)(g:Nat->Value):exec (mkE prog Y2) (hnd (mkE prog Y2) 0) (QI f147 0) (JSt.inst (QCt l k) g) (Q6 [] QTI)=QC.br (decide ((↑k:Int)<(↑l.n:Int))) (QC.need (decide ((0:Int)<=(↑k:Int)/\(↑k:Int)<(↑l.n:Int))&&decide (l.n<=l.n)) (QC.need (decide (k<l.n)) (QC.need (true) (QC.br (!(l.get k).ok) (QC.leaf (AV.tup [AV.nili,AV.ptr (19:Nat) (0:Nat) (0:Nat),vi (↑k:Int)]) ([])) (QC.leaf (AV.tup [AV.nilp,AV.ptr (19:Nat) (0:Nat) (0:Nat),AV.slz (0:Nat) (0:Nat) l.n cO,AV.fn (Fn.func (122:Nat)) [],vi (↑l.n:Int),vi (i64.wrap ((↑k:Int)+(1:Int)))]) ([((0:Nat),Blk.frz [CK.int i64,CK.int i64,CK.int i64,CK.int i64,CK.int i64,CK.int i64,CK.int i64] l.n λi=>QA.enc (l.get i))])))))) (QC.leaf (AV.tup [AV.ptr (0:Nat) (0:Nat) (0:Nat),AV.ptr (19:Nat) (0:Nat) (0:Nat)]) ([])):=by kernel_rfl
def QNG(k:Nat)(e:Ex)(J:JSt):Prop:=(e = .ret/\(QU (Jz l) (l.n-k) k).isSome=true/\J=⟨19,[(4,.int false .i64 (Kj (QU (Jz l) (l.n-k) k)))],[],8⟩)∨(e = .exit 0/\QU (Jz l) (l.n-k) k=none/\J=⟨19,[],[],8⟩)
theorem Qb6(k:Nat)(i:Int):QE 8 [.slz 0 0 l.n cO,.fn (.func 122) [],vi l.n,vi i] (Qm.blk 0 l) (QCt l k)=( some [0=0,l.n=l.n,cO=cO,Fn.func (122:FuncId)=Fn.func (122:FuncId),(↑l.n:Int)=(↑l.n:Int),i=(↑k:Int),l.n<=l.n, QB (7:Nat) l.n (λi=>QA.enc (l.get i)) λi=>QA.enc (l.get i)]):=by kernel_rfl
theorem QZb(i j:Int):QE 8 [vi i] [] ⟨19,[(4,vi j)],[],8⟩=( some [i=j]):=by kernel_rfl
theorem Qaq :QE 8 [] [] ⟨19,[],[],8⟩=( some []):=by kernel_rfl
theorem Qfb(hl:l.n<=1000):J3 (QCt l) (λk=>k<=l.n) (λk=>l.n-k) (QNG l) 8 QTI [] (mkE prog Y2) (λ_=>hnd (mkE prog Y2) 0) (QI f147 0):=by
 refine⟨λk g hk=>⟨QN9 (QYA l k g) ?_⟩⟩;refine QF ?_ ?_<;>intro h
 .have h:k<l.n:=by have:=qdt h;omega
  obtain⟨m,hm⟩:∃ m,l.n-k=m+1:=⟨l.n-k-1,by omega⟩
  have hm':l.n-(k+1)=m:=by omega
  refine QG (by simp;omega) (QG (by simp;omega) (QG rfl (QF (λhb=>?_) (λhb=>?_))))
  .have hf:QU (Jz l) (l.n-k) k=some k:=by rw[hm,QU];unfold Jz;rw[hb]
   exact⟨_,.inl ⟨rfl,by rw[hf];rfl,rfl⟩,rfl,rfl,_,QZb _ _,by rw[hf];exact⟨rfl,trivial⟩⟩
  .have hf:QU (Jz l) (l.n-k) k=QU (Jz l) (l.n-(k+1)) (k+1):=by rw[hm,hm',QU];unfold Jz;rw[hb]
   refine⟨k+1,by omega,by show l.n-(k+1)<l.n-k;omega,λe J h=>by unfold QNG at h ⊢;rw[hf];exact h,rfl,rfl,_,Qb6 _ _ _,?_⟩
   exact⟨rfl,rfl,rfl,rfl,rfl,(w64 (by omega) (by omega)).trans (by omega),qlr _,qRr,trivial⟩
 .have h:l.n<=k:=by have:=qdf h;omega
  have hf:QU (Jz l) (l.n-k) k=none:=by rw[show l.n-k=0 by omega];rfl
  exact⟨_,.inr ⟨rfl,hf,rfl⟩,rfl,rfl,_,Qaq,trivial⟩
def QVm:List (Prop×Ex×JSt):=[((QU (Jz l) l.n 0).isSome=true,.ret,⟨19,[(4,.int false .i64 (Kj (QU (Jz l) l.n 0)))],[],8⟩),(QU (Jz l) l.n 0=none,.exit 0,⟨19,[],[],8⟩)]
abbrev QFK(P:Program)(l:Rw Edge):Hnd:={ hnd (mkE P Y2) 1 with loop:=λ_=>KH 8 [] (QCt l 0) (QVm l) }
theorem Qfg(hl:l.n<=1000)(G:Ctx)(hrd:G.rd=none)(hG:G.n=8):Qx (mkE prog Y2) G (QFK prog l) (Ql f147):=by
 refine KO (body:=QI f147 0) (QO QBv) hrd (by kernel_rfl) ?_
 refine Vq (n0:=8) (QO QBv) (by omega) (λs hs=>Qw (QO QBv) 0 G _ hrd) (λs hs=>qlr _) ?_ (Qfb l hl) (s0:=0) (Nat.zero_le _) ?_
 .rintro s e J (⟨_,_,rfl⟩|⟨_,_,rfl⟩)<;>exact qlr _
 .rintro e J (⟨rfl,h,rfl⟩|⟨rfl,h,rfl⟩)
  .exact⟨_,qmc,h,rfl,rfl⟩
  .exact⟨_,List.mem_cons_of_mem _ qmc,h,rfl,rfl⟩
theorem QUT(x:FnK 122):Kn (mkE prog Y2) (QFK prog l) f147 (Qe.vals 0 (l,x,())) (Qe.blks 0 (l,x,())) 8=QC.ask (0=0) (QC.ask (l.n=l.n) (QC.ask (cO=cO) (QC.ask (Fn.func (122:Nat)=Fn.func (122:FuncId)) (QC.ask ((↑l.n:Int)=(↑l.n:Int)) (QC.ask ((0:Int)=(0:Int)) (QC.ask (l.n<=l.n) (QC.ask (QB (7:Nat) l.n (λi=>QA.enc (l.get i)) λi=>QA.enc (l.get i)) (QC.both (QC.asm ((QU (Jz l) l.n (0:Nat)).isSome=true) (QC.all (λ(g0:Nat->Value)=>QC.leaf (vi (Kj (QU (Jz l) l.n (0:Nat)))) ([])))) (QC.asm (QU (Jz l) l.n (0:Nat)=none) (QC.all (λ(g1:Nat->Value)=>QC.leaf (vj (-1:Int)) ([])))))))))))):=by kernel_rfl
def QEg:WF (Rw Edge×FnK 122×Unit):=λx=>(decide (x.1.n<=1000),vi (Kj (QU (Jz x.1) x.1.n 0)),[])
def QPy:FC:=wFC QEg
theorem QWz:JQ (mkE prog Y2) (Ql f147) 8 QEg (λx=>QFK prog x.1):=
 ⟨λx hx G h1 h2=>Qfg x.1 (qdt hx) G h1 h2⟩
theorem QZy:JR (mkE prog Y2) f147 8 QEg (λx=>QFK prog x.1):=by
 refine⟨?_⟩;rintro⟨l,x,⟨⟩⟩ hp;refine⟨⟨rfl,by simp[QEg],rfl⟩,⟨?_⟩⟩
 rw[QUT l x];refine Qq rfl (Qq rfl (Qq rfl (Qq rfl (Qq rfl (Qq rfl (Qq (qlr _) (Qq (qRr) (Kf (Qh λh=>Qj λg=>?_) (Qh λh=>Qj λg=>?_)))))))))
 .exact Kd ⟨rfl,rfl⟩ rfl
 .exact Kd ⟨rfl,by show(-1:Int)=Kj (QU (Jz l) l.n 0);rw[h];rfl⟩ rfl
theorem QdW:QS prog 147 QPy:=
 JX (QO QBv) func147 (by kernel_rfl) (by kernel_rfl) (by decide) QWz QZy
def qw:Tab:=Qa Y2 147 QPy
theorem QF3:Qd qw:=QBv.add QdW
def QAO:WF ((Rw Edge)×(FnK 122)×Unit):=λ|(l,(x,_))=>(decide (l.n<=1000),.bool false (decide (Kj (QU (Jz l) l.n 0)≥0)),[])
def QL5:FC:=wFC QAO
theorem Qbf(l:(Rw Edge))(x:(FnK 122)):Kn (mkE prog qw) (hnd (mkE prog qw) 0) f121 (Qe.vals 0 ((l,x,()):(Rw Edge)×(FnK 122)×Unit)) (Qe.blks 0 ((l,x,()):(Rw Edge)×(FnK 122)×Unit)) 8=QC.need (decide (l.n<=l.n)&&(true&&true)&&decide (l.n<=(1000:Nat))) (QC.leaf (AV.bool false (decide (Kj (QU (Jz l) l.n (0:Nat))≥(0:Int)))) ([])):=by kernel_rfl
theorem QWI:JQ (mkE prog qw) (Ql f121) 8 QAO (λx_=>(hnd (mkE prog qw) 0)):=by
 refine⟨?_⟩;rintro⟨l,⟨x,⟨⟩⟩⟩ hp G h1 h2;exact Qw (QO QF3) 0 G _ h1
theorem Qha:JR (mkE prog qw) f121 8 QAO (λx_=>(hnd (mkE prog qw) 0)):=by
 refine⟨?_⟩;rintro⟨l,⟨x,⟨⟩⟩⟩ hp;refine⟨⟨rfl,by simp[QAO],rfl⟩,⟨?_⟩⟩
 rw[Qbf l x];simp only[QAO]at hp;exact QG (by simpa using hp) (Kd rfl rfl)
theorem Qdv:QS prog 121 QL5:=
 JX (QO QF3) func121 (by kernel_rfl) (by kernel_rfl) (by decide) QWI Qha
def W8:Tab:=Qa qw 121 QL5
theorem QJy:Qd W8:=QF3.add Qdv
theorem QYq:∀(o:Option Nat),(!decide (Kj o≥0))=o.isNone
 | some i=>by simp[Kj]
 | none=>rfl
def QAE:WF ((Rw Edge)×Unit):=λ|(l,_)=>(decide (l.n<=1000),.bool false (Ye (λi=>(l.get i).ok) l.n),[])
def QTW:FC:=wFC QAE
theorem QYm(l:(Rw Edge)):Kn (mkE prog W8) (hnd (mkE prog W8) 0) f76 (Qe.vals 0 ((l,()):(Rw Edge)×Unit)) (Qe.blks 0 ((l,()):(Rw Edge)×Unit)) 8=QC.need (decide (l.n<=l.n)&&(true&&true)&&decide (l.n<=(1000:Nat))) (QC.leaf (AV.bool false !decide (Kj (QU (Jz l) l.n (0:Nat))≥(0:Int))) ([])):=by kernel_rfl
theorem Qfu:JQ (mkE prog W8) (Ql f76) 8 QAE (λx_=>(hnd (mkE prog W8) 0)):=by
 refine⟨?_⟩;rintro⟨l,⟨⟩⟩ hp G h1 h2;exact Qw (QO QJy) 0 G _ h1
theorem Qcy:JR (mkE prog W8) f76 8 QAE (λx_=>(hnd (mkE prog W8) 0)):=by
 refine⟨?_⟩;rintro⟨l,⟨⟩⟩ hp;refine⟨⟨rfl,by simp[QAE],rfl⟩,⟨?_⟩⟩
 rw[QYm l];simp only[QAE]at hp;exact QG (by simpa using hp) (Kd (QYq _) rfl)
theorem QX1:QS prog 76 QTW:=
 JX (QO QJy) func76 (by kernel_rfl) (by kernel_rfl) (by decide) Qfu Qcy
def XO:Tab:=Qa W8 76 QTW
theorem QBN:Qd XO:=QJy.add QX1
def YF{α:Type}[QA α](ty k:Nat)(l:List α)(d:α):Nat×Blk:=(k,.rowz true ty (QA.ks α) l.length λi=>QA.enc (l.getD i d))
def Kw(q:Nat->Bool):Nat->List Int
 | 0=>[]
 | k+1=>match q k with
  | true=>Kw q k++[(k:Int)]
  | false=>Kw q k
theorem QPx(q:Nat->Bool):∀ k,(Kw q k).length<=k
 | 0=>qlr _
 | k+1=>by
  have:=QPx q k;simp only[Kw];split<;>simp<;>omega
def K9(l:Rw Edge)(i:Nat):Bool:=decide (Yj p s (l.get i)≥least)
def qA(l:Rw Edge)(o:List Int)(k:Int):JSt:=
 ⟨30,[(2,.int false .i64 least),(4,.ptr 8 0 0),(5,.ptr 16 0 0),(8,.slz 24 0 o.length (.of 0)),(11,.slz 3 0 l.n (.of 0)),(12,.int false .i64 l.n),(13,.int false .i64 k)],
  [(8,.cells 0 25 (Enc.enc p).cells),(16,.cells 0 55 (Enc.enc s).cells),YF 3 24 o 0]++Qm.blk 3 l,32⟩
def QRi:Ex->List Nat
 | .normal=>[2,4,5,8,11,12,13]
 | _=>[8]
noncomputable abbrev QKC:Nat×Blk:=
  (8,.cells 0 25 [vi p.length,vi p.aK,vi p.oK,vi p.dK.lo,vi p.dK.hi])
noncomputable abbrev QQb:Nat×Blk:=
  (16,.cells 0 55 [vi s.kind,vi s.at_.lo,vi s.at_.hi,vi s.wide.lo,vi s.wide.hi,vi s.deep.lo,.int
  false .i64 s.deep.hi])
noncomputable abbrev QKG:Nat×Blk:=
  (3,.frz (waA) l.n λi=>QA.enc (l.get i))
theorem QhU(l:Rw Edge)(o:List Int)(k:Nat)(g:Nat->Value):exec (mkE prog XO) (hnd (mkE prog XO) 0) (QI f156 0) (JSt.inst (qA p s least l o k) g) (Q6 [] QRi) = .br (decide ((k:Int)<(l.n:Int))) (.need (decide ((0:Int)<=(k:Int)/\(k:Int)<(l.n:Int))&&decide (l.n<=l.n)) (.need (decide (k<l.n)) (.need (okP p s (l.get k)) (.br (decide (Yj p s (l.get k) ≥ least)) (.need (decide (o.length<=o.length)&&(true&&decide ((o.length+1+(o.length+1) / 4+192)*8<=281474976710656/\o.length+1<=9223372036854775807))) (.leaf (.tup [.nilp,.ptr 30 0 0,vi least,.ptr 8 0 0,.ptr 16 0 0,.slz 160 0 (o.length+1) cO,.slz 3 0 l.n cO,vi (l.n:Int),vi (i64.wrap ((k:Int)+1))]) ([(QKC p),(QQb s),(160,.rowz true 3 [.int .i64] (o.length+1) (Q9 o.length (λi=>QA.enc (o.getD i 0)) (KI [[vi (k:Int)]] 0))),(QKG l)]))) (.leaf (.tup [.nilp,.ptr 30 0 0,vi least,.ptr 8 0 0,.ptr 16 0 0,.slz 24 0 o.length cO,.slz 3 0 l.n cO,vi (l.n:Int),vi (i64.wrap ((k:Int)+1))]) ([(QKC p),(QQb s),(24,.rowz true 3 [.int .i64] o.length λi=>QA.enc (o.getD i 0)),(QKG l)])))))) (.leaf (.tup [.ptr 0 0 0,.ptr 30 0 0,.slz 24 0 o.length cO]) ([(24,.rowz true 3 [.int .i64] o.length λi=>QA.enc (o.getD i 0))])):=by kernel_rfl
theorem QVN(x:Int):QB 1 (o++[x]).length (Q9 o.length (λi=>QA.enc (o.getD i 0)) (KI [[AV.int false i64 x]] 0)) (λi=>QA.enc ((o++[x]).getD i 0)):=by
 intro i hi;refine⟨?_,trivial⟩;rw[XP];rw[List.length_append,List.length_singleton]at hi;split
 .rename_i h;show o.getD i 0=(o++[x]).getD i 0;rw[List.getD_eq_getElem?_getD,List.getD_eq_getElem?_getD,List.getElem?_append_left h]
 .rename_i h;have:i=o.length:=by omega
  subst this;show x=(o++[x]).getD o.length 0;simp
noncomputable abbrev waM(p:Q0)(s:Edge):List Prop:=[p.length=p.length,p.aK=p.aK,p.oK=p.oK,p.dK.lo=p.dK.lo,p.dK.hi=p.dK.hi,s.kind=s.kind,s.at_.lo=s.at_.lo,s.at_.hi=s.at_.hi,s.wide.lo=s.wide.lo,s.wide.hi=s.wide.hi,s.deep.lo=s.deep.lo,s.deep.hi=s.deep.hi]
theorem Qg9(l:Rw Edge)(n:Nat)(g:Nat->Nat->Int)(i:Int)(o:List Int)(k:Int):QE 8 [vi least,.ptr 8 0 0,.ptr 16 0 0,.slz 24 0 n cO,.slz 3 0 l.n cO,vi l.n,vi i] ([(8,.cells 0 25 (Enc.enc p).cells),(16,.cells 0 55 (Enc.enc s).cells),(24,.rowz true 3 [.int .i64] n g)]++Qm.blk 3 l) (qA p s least l o k)=( some ([least=least,0=0,0=0,0=0,0=0,0=0,n=o.length,cO=cO,0=0,l.n=l.n,cO=cO,(↑l.n:Int)=(↑l.n:Int),i=k]++waM p s++[o.length<=n,QB (1:Nat) o.length g λi=>QA.enc (o.getD i (0:Int)),l.n<=l.n,QB (7:Nat) l.n (λi=>QA.enc (l.get i)) λi=>QA.enc (l.get i)])):=by kernel_rfl
theorem QgT(l:Rw Edge)(n:Nat)(g:Nat->Nat->Int)(i:Int)(o:List Int)(k:Int):QE 8 [vi least,.ptr 8 0 0,.ptr 16 0 0,.slz 160 0 n cO,.slz 3 0 l.n cO,vi l.n,vi i] ([(8,.cells 0 25 (Enc.enc p).cells),(16,.cells 0 55 (Enc.enc s).cells),(160,.rowz true 3 [.int .i64] n g)]++Qm.blk 3 l) (qA p s least l o k)=( some ([least=least,0=0,0=0,0=0,0=0,0=0,n=o.length,cO=cO,0=0,l.n=l.n,cO=cO,(↑l.n:Int)=(↑l.n:Int),i=k]++waM p s++[o.length<=n,QB (1:Nat) o.length g λi=>QA.enc (o.getD i (0:Int)),l.n<=l.n,QB (7:Nat) l.n (λi=>QA.enc (l.get i)) λi=>QA.enc (l.get i)])):=by kernel_rfl
def zX:JSt:=⟨30,[(8,.slz 24 0 o.length (.of 0))],[YF 3 24 o 0],32⟩
theorem QdF(n:Nat)(g:Nat->Nat->Int)(o:List Int):QE 8 [.slz 24 0 n cO] [(24,.rowz true 3 [.int .i64] n g)] (zX o)=( some [0=0,n=o.length,cO=cO,o.length<=n,QB (1:Nat) o.length g λi=>QA.enc (o.getD i (0:Int))]):=by kernel_rfl
def QHv:Prop:=p.ok=true/\s.ok=true/\Ye (λi=>(l.get i).ok) l.n=true/\l.n<=1000
theorem Qh5(l:Rw Edge)(hl:QHv p s l):J3 (λk:Nat=>qA p s least l (Kw (K9 p s least l) k) k) (λk=>k<=l.n) (λk=>l.n-k) (λ_ e J=>e = .exit 0/\J=zX (Kw (K9 p s least l) l.n)) 8 QRi [] (mkE prog XO) (λ_=>hnd (mkE prog XO) 0) (QI f156 0):=by
 obtain⟨h1,h2,h3,h4⟩:=hl;refine⟨λk g hk=>⟨QN9 (QhU p s least l _ k g) ?_⟩⟩;have hlen:=QPx (K9 p s least l) k;refine QF ?_ ?_<;>intro h
 .have h:k<l.n:=by have:=qdt h;omega
  have hw:i64.wrap ((k:Int)+1)=((k+1:Nat):Int):=(w64 (by omega) (by omega)).trans (by omega)
  refine QG (by simp;omega) (QG (by simp;omega) (QG (by simp only[okP,h1,h2,Qdu h3 h];rfl) (QF (λhb=>?_) (λhb=>?_))))
  .have e:Kw (K9 p s least l) (k+1)=Kw (K9 p s least l) k++[(k:Int)]:=by simp only[Kw,K9];rw[hb]
   refine QG (by simp;omega) ⟨k+1,h,by show l.n-(k+1)<l.n-k;omega,λ_ _ h=>h,rfl,rfl,_,QgT _ _ _ _ _ _ _ _ _,?_⟩
   rw[e]
   repeat' first|exact tv|exact qRr|exact hw|refine aI ?_ ?_
   .simp
   .simp
   .exact QVN _ _
  .have e:Kw (K9 p s least l) (k+1)=Kw (K9 p s least l) k:=by simp only[Kw,K9];rw[hb]
   refine⟨k+1,h,by show l.n-(k+1)<l.n-k;omega,λ_ _ h=>h,rfl,rfl,_,Qg9 _ _ _ _ _ _ _ _ _,?_⟩
   rw[e]
   repeat' first|exact tv|exact qRr|exact hw|refine aI ?_ ?_
 .have:k=l.n:=by have:=qdf h;omega
  subst this;refine⟨_,⟨rfl,rfl⟩,rfl,rfl,_,QdF _ _ _,?_⟩
  repeat' first|exact tv|exact qRr|refine aI ?_ ?_
theorem QXY(l:Rw Edge)(hl:QHv p s l)(G:Ctx)(hrd:G.rd=none)(hG:G.n=8):Qx (mkE prog XO) G { hnd (mkE prog XO) 1 with loop:=λ_=>KH 8 [] (qA p s least l [] (0:Nat)) [(True,.exit 0,zX (Kw (K9 p s least l) l.n))] } (Ql f156):=by
 refine KO (body:=QI f156 0) (QO QBN) hrd (by kernel_rfl) ?_
 refine Vq (n0:=8) (QO QBN) (by omega) (λs hs=>Qw (QO QBN) 0 G _ hrd) (λs hs=>(by decide:8<=32)) ?_ (Qh5 p s least l hl) (s0:=0) (Nat.zero_le _) ?_
 .rintro s e J ⟨_,rfl⟩;exact(by decide:8<=32)
 .rintro e J ⟨rfl,rfl⟩;exact⟨_,qmc,trivial,rfl,rfl⟩
theorem QU3:QE 8 [.slz 24 0 o.length cO] [(24,.rowz true 3 [.int .i64] o.length λi=>QA.enc (o.getD i 0))] (KN 8 (.slz 0 0 o.length cO) [YF 3 0 o 0])=( some [0=0,o.length=o.length,cO=cO,o.length<=o.length,QB (1:Nat) o.length (λi=>QA.enc (o.getD i (0:Int))) λi=>QA.enc (o.getD i (0:Int))]):=by kernel_rfl
def HN:WF (Q0×Edge×Int×(Rw Edge)×Unit):=λ|(p,(s,(least,(l,_))))=>(p.ok&&s.ok&&Ye (λi=>(l.get i).ok) l.n&&decide (l.n<=1000),.slz 0 0 (Kw (K9 p s least l) l.n).length (.of 0),[YF 3 0 (Kw (K9 p s least l) l.n) 0])
def QRv:FC:=wFC HN
theorem QWe(l:(Rw Edge)):Kn (mkE prog XO) { hnd (mkE prog XO) 1 with loop:=λ_=>KH 8 [] (qA p s least l [] (0:Nat)) [(True,.exit 0,zX (Kw (K9 p s least l) l.n))] } f156 (Qe.vals 0 ((p,s,least,l,()):Q0×Edge×Int×(Rw Edge)×Unit)) (Qe.blks 0 ((p,s,least,l,()):Q0×Edge×Int×(Rw Edge)×Unit)) 8 = .ak ([least=least,0=0,0=0,0=0,0=0,0=0,0=0,l.n=l.n,cO=cO,(l.n:Int)=(l.n:Int),(0:Int)=0]++waM p s++[0=0,l.n<=l.n,QB 7 l.n (λi=>QA.enc (l.get i)) λi=>QA.enc (l.get i)]) (.asm (True) (.all (λ(g0:Nat->Value)=>.leaf (.slz 24 0 (Kw (K9 p s least l) l.n).length cO) ([(24,.rowz true 3 [.int .i64] (Kw (K9 p s least l) l.n).length λi=>QA.enc ((Kw (K9 p s least l) l.n).getD i 0))])))):=by kernel_rfl
theorem QVS:JQ (mkE prog XO) (Ql f156) 8 HN (λx_=>{ hnd (mkE prog XO) 1 with loop:=λ_=>KH 8 [] (qA x_.1 x_.2.1 x_.2.2.1 x_.2.2.2.1 [] (0:Nat)) [(True,.exit 0,zX (Kw (K9 x_.1 x_.2.1 x_.2.2.1 x_.2.2.2.1) x_.2.2.2.1.n))] }):=by
 refine⟨?_⟩;rintro⟨p,⟨s,⟨least,⟨l,⟨⟩⟩⟩⟩⟩ hp G h1 h2;exact QXY p s least l (by simpa[HN,QHv,and_assoc]using hp) G h1 h2
theorem QfG:JR (mkE prog XO) f156 8 HN (λx_=>{ hnd (mkE prog XO) 1 with loop:=λ_=>KH 8 [] (qA x_.1 x_.2.1 x_.2.2.1 x_.2.2.2.1 [] (0:Nat)) [(True,.exit 0,zX (Kw (K9 x_.1 x_.2.1 x_.2.2.1 x_.2.2.2.1) x_.2.2.2.1.n))] }):=by
 refine⟨?_⟩;rintro⟨p,⟨s,⟨least,⟨l,⟨⟩⟩⟩⟩⟩ hp;refine⟨⟨rfl,by simp[HN,YF,Blk.own,Blk.all],rfl⟩,⟨?_⟩⟩
 rw[QWe p s least l];simp only[HN]at hp
 repeat' first|refine Qq (by with_reducible rfl) ?_|refine Qq (qlr _) ?_|refine Qq (qRr) ?_
 refine Qh λ_=>Qj λg=>⟨rfl,rfl,_,QU3 _,?_⟩
 repeat' first|exact tv|exact qRr|refine aI ?_ ?_
theorem QWm:QS prog 156 QRv:=
 JX (QO QBN) func156 (by kernel_rfl) (by kernel_rfl) (by decide) QVS QfG
def Wi:Tab:=Qa XO 156 QRv
theorem QGA:Qd Wi:=QBN.add QWm
def XK:Bool:=p.ok&&(s.ok&&Ye (λi=>(l.get i).ok) l.n)
def Y1:Int:=match XK p s l with
 | true=>(match decide (l.n>40)with|true=>3|false=>0)
 | false=>1
def VC(l:Rw Edge):List Int:=match XK p s l&&decide (l.n<=40)with
 | true=>Kw (K9 p s least l) l.n
 | false=>[]
theorem Qgd(e f:Int)(o q:List Int):QE 8 [.tup [.nils,.nils,vj e]] [] (KN 8 (.tup [.slz 0 0 o.length cO,.slz 1 0 q.length cO,vi f]) [YF 3 0 o 0,YF 3 1 q 0])=( some [o.length=(0:Nat),q.length=(0:Nat),e=f,o.length=(0:Nat),q.length=(0:Nat)]):=by kernel_rfl
theorem Qau(n m:Nat)(g h:Nat->Nat->Int)(e f:Int)(o q:List Int):QE 8 [.tup [.slz 216 0 n cO,.slz 248 0 m cO,vj e]] [(216,.rowz true 3 [.int .i64] n g),(248,.rowz true 3 [.int .i64] m h)] (KN 8 (.tup [.slz 0 0 o.length cO,.slz 1 0 q.length cO,vi f]) [YF 3 0 o 0,YF 3 1 q 0])=( some [0=0,n=o.length,cO=cO,0=0,m=q.length,cO=cO,e=f,o.length<=n,QB (1:Nat) o.length g λi=>QA.enc (o.getD i (0:Int)),q.length<=m,QB (1:Nat) q.length h λi=>QA.enc (q.getD i (0:Int))]):=by kernel_rfl
def vQ:WF (Q0×Edge×(Rw Edge)×Unit):=λ|(p,(s,(l,_)))=>(decide (l.n<=1000),.tup [.slz 0 0 (VC p s 2 l).length (.of 0),.slz 1 0 (VC p s 1 l).length (.of 0),.int false .i64 (Y1 p s l)],[YF 3 0 (VC p s 2 l) 0,YF 3 1 (VC p s 1 l) 0])
def QOZ:FC:=wFC vQ
theorem QaT(l:(Rw Edge)):Kn (mkE prog Wi) (hnd (mkE prog Wi) 0) f136 (Qe.vals 0 ((p,s,l,()):Q0×Edge×(Rw Edge)×Unit)) (Qe.blks 0 ((p,s,l,()):Q0×Edge × (Rw Edge)×Unit)) 8 = .need (true) (.br (!p.ok) (.leaf (.tup [.nils,.nils,vj 1]) ([])) (.need (true) (.br (!s.ok) (.leaf (.tup [.nils,.nils,vj 1]) ([])) (.need (decide (l.n<=l.n)&&true&&decide (l.n<=1000)) (.br (!Ye (λi=>(l.get i).ok) l.n) (.leaf (.tup [.nils,.nils,vj 1]) ([])) (.br (decide ((l.n:Int)>40)) (.leaf (.tup [.nils,.nils,vj 3]) ([])) (.need (true&&(true&&(true&&(decide (l.n<=l.n)&&true)))&&(p.ok&&s.ok&&Ye (λi=>(l.get i).ok) l.n&&decide (l.n<=1000))) (.need (true&&(true&&(true&&(decide (l.n<=l.n)&&true)))&&(p.ok&&s.ok&&Ye (λi=>(l.get i).ok) l.n&&decide (l.n<=1000))) (.leaf (.tup [.slz 216 0 (Kw (K9 p s (2:Int) l) l.n).length cO,.slz 248 0 (Kw (K9 p s (1:Int) l) l.n).length cO,vj 0]) ([(216,.rowz true 3 [.int .i64] (Kw (K9 p s (2:Int) l) l.n).length λi=>QA.enc ((Kw (K9 p s (2:Int) l) l.n).getD i 0)),(248,.rowz true 3 [.int .i64] (Kw (K9 p s (1:Int) l) l.n).length λi=>QA.enc ((Kw (K9 p s (1:Int) l) l.n).getD i 0))])))))))))):=by kernel_rfl
theorem QdC:JQ (mkE prog Wi) (Ql f136) 8 vQ (λx_=>(hnd (mkE prog Wi) 0)):=by
 refine⟨?_⟩;rintro⟨p,⟨s,⟨l,⟨⟩⟩⟩⟩ hp G h1 h2;exact Qw (QO QGA) 0 G _ h1
theorem Qhx:JR (mkE prog Wi) f136 8 vQ (λx_=>(hnd (mkE prog Wi) 0)):=by
 refine⟨?_⟩;rintro⟨p,⟨s,⟨l,⟨⟩⟩⟩⟩ hp;refine⟨⟨rfl,by simp[vQ,YF,Blk.own,Blk.all],rfl⟩,⟨?_⟩⟩
 rw[QaT p s l];simp only[vQ]at hp;have hn:l.n<=1000:=qdt hp
 have no:∀ e:Int,VC p s 2 l=[]->VC p s 1 l=[]->Y1 p s l=e->(QC.leaf (AV.tup [AV.nils,AV.nils,AV.int true i64 e]) []).den (HD 8 (vQ (p,s,l,())).2.1 (vQ (p,s,l,())).2.2):=by
  intro e h1 h2 h3;refine⟨rfl,rfl,_,Qgd _ _ _ _,?_⟩;rw[h1,h2,h3];exact⟨rfl,rfl,rfl,rfl,rfl,trivial⟩
 refine QG rfl (QF (λh=>?_) (λh=>QG rfl (QF (λh2=>?_) (λh2=>QG (by simpa using hn) (QF (λh3=>?_) (λh3=>QF (λh4=>?_) (λh4=>?_)))))))
 .have e:XK p s l=false:=by simp[XK]at h ⊢;simp[h]
  exact no 1 (by simp[VC,e]) (by simp[VC,e]) (by simp[Y1,e])
 .have e:XK p s l=false:=by simp[XK]at h2 ⊢;simp[h2]
  exact no 1 (by simp[VC,e]) (by simp[VC,e]) (by simp[Y1,e])
 .have e:XK p s l=false:=by simp[XK]at h3 ⊢;simp[h3]
  exact no 1 (by simp[VC,e]) (by simp[VC,e]) (by simp[Y1,e])
 .have h4:l.n>40:=by have:=qdt h4;omega
  have e1:decide (l.n>40)=true:=qde h4;have e2:decide (l.n<=40)=false:=decide_eq_false (by omega)
  have e:XK p s l=true:=by simp[XK]at h h2 h3 ⊢;exact⟨h,h2,h3⟩
  exact no 3 (by simp only[VC,e,e2];rfl) (by simp only[VC,e,e2];rfl) (by simp only[Y1,e,e1])
 .have h4:¬ l.n>40:=by have:=qdf h4;omega
  have e1:decide (l.n>40)=false:=decide_eq_false h4;have e2:decide (l.n<=40)=true:=qde (by omega)
  have e:XK p s l=true:=by simp[XK]at h h2 h3 ⊢;exact⟨h,h2,h3⟩
  have hq:(p.ok&&s.ok&&Ye (λi=>(l.get i).ok) l.n&&decide (l.n<=1000))=true:=by simp at h h2 h3;simp[h,h2,h3,hn]
  refine QG (by simp only[hq];simp) (QG (by simp only[hq];simp) ⟨rfl,rfl,_,Qau _ _ _ _ _ _ _ _,?_⟩)
  have k2:VC p s 2 l=Kw (K9 p s 2 l) l.n:=by simp only[VC,e,e2];rfl
  have k1:VC p s 1 l=Kw (K9 p s 1 l) l.n:=by simp only[VC,e,e2];rfl
  have k3:Y1 p s l=0:=by simp only[Y1,e,e1]
  rw[k1,k2,k3]
  repeat' first|exact tv|exact qRr|refine aI ?_ ?_
theorem QdS:QS prog 136 QOZ:=
 JX (QO QGA) func136 (by kernel_rfl) (by kernel_rfl) (by decide) QdC Qhx
def QDe:Tab:=Qa Wi 136 QOZ
theorem QQh:Qd QDe:=QGA.add QdS
structure QX where
 up:Edge
 right:Edge
 down:Edge
 left:Edge
def QX.ok(p:QX):Bool:=p.up.ok&&(p.right.ok&&(p.down.ok&&p.left.ok))
instance : QA QX where
  ks := [.int .i64,.int .i64,.int .i64,.int .i64,.int .i64,.int .i64,.int .i64,.int .i64,.int .i64,.int .i64,.int .i64,.int .i64,.int .i64,.int .i64,.int .i64,.int .i64,.int .i64,.int .i64,.int .i64,.int .i64,.int .i64,.int .i64,.int .i64,.int .i64,.int .i64,.int .i64,.int .i64,.int .i64]
  enc p j := match j with
    | 0 => p.up.kind
    | 1 => p.up.at_.lo
    | 2 => p.up.at_.hi
    | 3 => p.up.wide.lo
    | 4 => p.up.wide.hi
    | 5 => p.up.deep.lo
    | 6 => p.up.deep.hi
    | 7 => p.right.kind
    | 8 => p.right.at_.lo
    | 9 => p.right.at_.hi
    | 10 => p.right.wide.lo
    | 11 => p.right.wide.hi
    | 12 => p.right.deep.lo
    | 13 => p.right.deep.hi
    | 14 => p.down.kind
    | 15 => p.down.at_.lo
    | 16 => p.down.at_.hi
    | 17 => p.down.wide.lo
    | 18 => p.down.wide.hi
    | 19 => p.down.deep.lo
    | 20 => p.down.deep.hi
    | 21 => p.left.kind
    | 22 => p.left.at_.lo
    | 23 => p.left.at_.hi
    | 24 => p.left.wide.lo
    | 25 => p.left.wide.hi
    | 26 => p.left.deep.lo
    | _ => p.left.deep.hi
  dec f := ⟨⟨f 0,⟨f 1,f 2⟩,⟨f 3,f 4⟩,⟨f 5,f 6⟩⟩,⟨f 7,⟨f 8,f 9⟩,⟨f 10,f 11⟩,⟨f 12,f 13⟩⟩,⟨f 14,⟨f 15,f 16⟩,⟨f 17,f 18⟩,⟨f 19,f 20⟩⟩,⟨f 21,⟨f 22,f 23⟩,⟨f 24,f 25⟩,⟨f 26,f 27⟩⟩⟩
  ok _ := rfl
instance : Enc QX where
  enc p := .agg [.int false .i64 p.up.kind,.int false .i64 p.up.at_.lo,.int false .i64 p.up.at_.hi,.int false .i64 p.up.wide.lo,.int false .i64 p.up.wide.hi,.int false .i64 p.up.deep.lo,.int false .i64 p.up.deep.hi,.int false .i64 p.right.kind,.int false .i64 p.right.at_.lo,.int false .i64 p.right.at_.hi,.int false .i64 p.right.wide.lo,.int false .i64 p.right.wide.hi,.int false .i64 p.right.deep.lo,.int false .i64 p.right.deep.hi,.int false .i64 p.down.kind,.int false .i64 p.down.at_.lo,.int false .i64 p.down.at_.hi,.int false .i64 p.down.wide.lo,.int false .i64 p.down.wide.hi,.int false .i64 p.down.deep.lo,.int false .i64 p.down.deep.hi,.int false .i64 p.left.kind,.int false .i64 p.left.at_.lo,.int false .i64 p.left.at_.hi,.int false .i64 p.left.wide.lo,.int false .i64 p.left.wide.hi,.int false .i64 p.left.deep.lo,.int false .i64 p.left.deep.hi]
  dec
    | .agg [.int _ .i64 a0,.int _ .i64 a1,.int _ .i64 a2,.int _ .i64 a3,.int _ .i64 a4,.int _ .i64 a5,.int _ .i64 a6,.int _ .i64 a7,.int _ .i64 a8,.int _ .i64 a9,.int _ .i64 a10,.int _ .i64 a11,.int _ .i64 a12,.int _ .i64 a13,.int _ .i64 a14,.int _ .i64 a15,.int _ .i64 a16,.int _ .i64 a17,.int _ .i64 a18,.int _ .i64 a19,.int _ .i64 a20,.int _ .i64 a21,.int _ .i64 a22,.int _ .i64 a23,.int _ .i64 a24,.int _ .i64 a25,.int _ .i64 a26,.int _ .i64 a27] => some ⟨⟨a0,⟨a1,a2⟩,⟨a3,a4⟩,⟨a5,a6⟩⟩,⟨a7,⟨a8,a9⟩,⟨a10,a11⟩,⟨a12,a13⟩⟩,⟨a14,⟨a15,a16⟩,⟨a17,a18⟩,⟨a19,a20⟩⟩,⟨a21,⟨a22,a23⟩,⟨a24,a25⟩,⟨a26,a27⟩⟩⟩
    | _ => none
  ok v x h := by
    split at h <;> (try (cases h; done))
    simp only[qsI]at h; subst h;exact⟨λ_=>rfl,rfl⟩
structure Puz where
 pK:Q0
 wide:Int
 high:Int
 turn:Bool
 ps:Rw QX
instance : Qm Puz where
  val k x := .agg [.int false .i64 x.pK.length,.int false .i64 x.pK.aK,.int false .i64 x.pK.oK,.int false .i64 x.pK.dK.lo,.int false .i64 x.pK.dK.hi,.int false .i64 x.wide,.int false .i64 x.high,.bool false x.turn,Qm.val k x.ps]
  blk k x := Qm.blk k x.ps
  dec v lk := match v with
    | .agg [.int _ .i64 a,.int _ .i64 b,.int _ .i64 c,.int _ .i64 d,.int _ .i64 e,.int _ .i64 f,.int _ .i64 g,.bool _ t,s] => (match (Qm.dec s lk : Option (Bool × Rw QX))with
      | some (p,x) => some (p,⟨⟨a,b,c,⟨d,e⟩⟩,f,g,t,x⟩)
      | none => none)
    | _ => none
  ok v lk p x h hp := by
    split at h <;> (try (cases h; done))
    split at h <;> (try (cases h; done))
    rename_i a b c d e f g t s p' x' hd;simp only[qsI,qpI]at h;obtain⟨rfl,rfl⟩ := h;obtain⟨h1,h2⟩ := Qm.ok _ _ _ _ hd hp;refine⟨λk=>⟨?_,(h1 k).2⟩,λr w hb=>?_⟩
    . have := (h1 k).1
      simp only[AV.all,AV.allL,Bool.true_and,Bool.and_true]; exact this
    . obtain⟨l,hl⟩ := h2 r w hb
      refine⟨l,λk r' hr=>⟨?_,(hl k r' hr).2⟩⟩;have := (hl k r' hr).1;simp only[AV.den,AV.denL]at this ⊢;rw[this]
def QQR:AV->Bool
 | .agg _=>true
 | _=>false
theorem QaQ{v:AV}(h:QQR v=true):∃ l,v = .agg l:=by
 cases v<;>first|(cases h;done)|exact⟨_,rfl⟩
structure FnC (α:Type) (g ty:Nat) where
 x:α
instance {α : Type} [Enc α] (g ty : Nat) : Qm (FnC α g ty) where
  val k _ := .fn (.func g) [.ptr k 0 0]
  blk k x := [(k,.cellsR 0 ty (Enc.enc x.x).cells)]
  dec v lk := match v with
    | .fn (.func g') [.ptr id e j] => (match Nat.beq g' g && (Nat.beq e 0 && Nat.beq j 0)with
      | true => (match lk id with
        | some (.cellsR z ty' l) => (match Nat.beq ty' ty && Nat.beq z 0 with
          | true => (match (Enc.dec (.agg l) : Option α)with
            | some a => (match QQR (Enc.enc a)with | true => some (true,⟨a⟩) | false => none)
            | none => none)
          | false => none)
        | _ => none)
      | false => none)
    | _ => none
  ok v lk p x h _ := by
    split at h <;> (try (cases h; done))
    rename_i g' id e j;split at h <;> (try (cases h; done))
    rename_i hg;split at h <;> (try (cases h; done))
    rename_i z ty' l hlk;split at h <;> (try (cases h; done))
    rename_i hz;split at h <;> (try (cases h; done))
    rename_i a ha;split at h <;> (try (cases h; done))
    rename_i hagg;simp only[qbA]at hg hz;have hg1 := qnb hg.1;have he := qnb hg.2.1;have hj := qnb hg.2.2;have ht := qnb hz.1;have hz0 := qnb hz.2;subst hg1 he hj ht hz0;simp only[qsI,qpI]at h;obtain⟨_,rfl⟩ := h;obtain⟨k1,k2⟩ := Enc.ok _ _ ha;obtain⟨l',hl'⟩ := QaQ hagg;rw[hl']at k1 k2;have hcl : (Enc.enc a).cells = l' := by rw[hl']; rfl
    have k3 : ∀ r,AV.denL r l' = AV.denL r l := λr=>by
      have := k1 r;simp only[AV.den,Value.agg.injEq]at this;exact Array.toList_inj.2 this |> λh=>by simpa using h
    refine⟨λk=>⟨by simp[AV.all,AV.allL],λq hq=>?_⟩,λr w hb=>⟨r id,λk r' hr=>⟨?_,λq hq=>?_⟩⟩⟩
    . simp only[List.mem_singleton]at hq; subst hq
      refine⟨rfl,rfl,?_⟩;show AV.allL _ (Enc.enc a).cells = true;rw[hcl]; exact k2
    . simp only[AV.den,AV.denL,hr]
    . simp only[List.mem_singleton]at hq; subst hq
      obtain⟨b1,b2,b3⟩ := hb _ _ hlk;refine⟨by rw[hr]; exact b1,by rw[hr]; exact b2,?_⟩
      show bk w (r' k).blk = some (.cells (AV.denL r' (Enc.enc a).cells).toArray _ _);rw[hr,hcl,denL_congr (p := λ_=>false) (r := r') (r' := r) (λ_ hf=>by cases hf) _ k2,k3 r]
      exact b3
