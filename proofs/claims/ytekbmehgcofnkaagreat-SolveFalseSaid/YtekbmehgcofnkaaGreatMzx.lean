/- - -/
import Derived.Test.YtekbmehgcofnkaaGreatMzv
import Derived.Test.YtekbmehgcofnkaaGreatMzw
import Derived.Test.YtekbmehgcofnkaaGreatMzr
import Derived.Test.YtekbmehgcofnkaaGreatMr
open Go.Proofs.Tryz
open Go.IntKind (i64)
set_option maxRecDepth 100000
namespace Go.Proofs.YtekbmehgcofnkaaGreat
open Go.SX Go.SX.Told
variable {L:List Jn}(a:Rw Jn)(d:Puz)(l:Rw Lay)(f:List Jn)(c:Nat)(f':List Jn)(g:Nat->Value)
def ijJ(x:Jn)(k:Nat):JSt:=⟨17,[(3,.ptr 8 0 0),(7,.slz 0 0 a.n (.of 0)),(8,vi a.n),(9,vi k)],[(8,.cellsR 0 67 [vi x.a,vi x.i,vi x.b,vi x.j])]++Qm.blk 0 a,16⟩
def QR3:Ex->List Nat
 | .normal=>[3,7,8,9]
 | .exit _=>[]
 | .ret=>[4]
def QFr:JSt:=⟨17,[(4,.bool false true)],[],16⟩
def QIy:JSt:=⟨17,[],[],16⟩
def ijQ(x:Jn)(i:Nat):Bool:=(a.get i).a==x.a&&((a.get i).i==x.i&&((a.get i).b==x.b&&((a.get i).j==x.j&&true)))
def ijR(p:Nat->Bool)(n k:Nat)(e:Ex)(J:JSt):Prop:=(e = .ret/\(QU p (n-k) k).isNone=false/\J=QFr)∨(e = .exit 0/\(QU p (n-k) k).isNone=true/\J=QIy)
def ijX(p:Nat->Bool)(n:Nat):List (Prop×Ex×JSt):=[((QU p n 0).isNone=false,.ret,QFr),((QU p n 0).isNone=true,.exit 0,QIy)]
def inR(x:Jn):Bool := !(QU (ijQ a x) a.n 0).isNone
theorem QYY(x:Jn)(k:Nat)(g:Nat->Value):exec (mkE prog Yn) (hnd (mkE prog Yn) 0) (QI f48 0) (JSt.inst (ijJ a x k) g) (Q6 [] QR3)=QC.br (decide ((↑k:Int)<(↑a.n:Int))) (QC.need (decide ((0:Int)<=(↑k:Int)/\(↑k:Int)<(↑a.n:Int))&&decide (a.n<=a.n)) (QC.need (decide (k<a.n)) (QC.br ((a.get k).a==x.a&&((a.get k).i==x.i&&((a.get k).b==x.b&&((a.get k).j==x.j&&true)))) (QC.leaf (AV.tup [AV.nili,AV.ptr (17:Nat) (0:Nat) (0:Nat),AV.bool true true]) ([])) (QC.leaf (AV.tup [AV.nilp,AV.ptr (17:Nat) (0:Nat) (0:Nat),AV.ptr (8:Nat) (0:Nat) (0:Nat),AV.slz (0:Nat) (0:Nat) a.n cO,vi (↑a.n:Int),vi (i64.wrap ((↑k:Int)+(1:Int)))]) ([((8:Nat),Blk.cellsR (0:Nat) (67:Nat) [vi x.a, vi x.i,vi x.b,vi x.j]),((0:Nat),Blk.frz [CK.int i64,CK.int i64,CK.int i64,CK.int i64] a.n λi=>QA.enc (a.get i))]))))) (QC.leaf (AV.tup [AV.ptr (0:Nat) (0:Nat) (0:Nat),AV.ptr (17:Nat) (0:Nat) (0:Nat)]) ([])):=by kernel_rfl
theorem QWr :QE 8 [AV.bool true true] ([]) QFr=( some [true=true]):=by kernel_rfl
theorem QWq(x:Jn)(k k':Nat):QE 8 [AV.ptr (8:Nat) (0:Nat) (0:Nat),AV.slz (0:Nat) (0:Nat) a.n cO,vi (↑a.n:Int),vi (i64.wrap ((↑k:Int)+(1:Int)))] ([((8:Nat),Blk.cellsR (0:Nat) (67:Nat) [vi x.a,vi x.i,vi x.b,vi x.j]),((0:Nat),Blk.frz [CK.int i64,CK.int i64,CK.int i64,CK.int i64] a.n λi=>QA.enc (a.get i))]) (ijJ a x k')=( some [0=0,0=0,0=0,a.n=a.n,cO=cO,(↑a.n:Int)=(↑a.n:Int),i64.wrap ((↑k:Int)+(1:Int))=(↑k':Int),x.a=x.a,x.i=x.i,x.b=x.b,x.j=x.j,a.n<=a.n,QB (4:Nat) a.n (λi=>QA.enc (a.get i)) λi=>QA.enc (a.get i)]):=by kernel_rfl
theorem QcZ :QE 8 [] ([]) QIy=( some []):=by kernel_rfl
theorem QYg(x:Jn)(hl:a.n<=1000000):J3 (ijJ a x) (λk=>k<=a.n) (λk=>a.n-k) (ijR (ijQ a x) a.n) 8 QR3 [] (mkE prog Yn) (λ_=>hnd (mkE prog Yn) 0) (QI f48 0):=by
 refine⟨λk g hk=>Qg (QYY a x k g) ?_⟩;refine QF ?_ ?_<;>intro h
 .have h:k<a.n:=by have:=qdt h;omega
  have hf:=VP (p:=ijQ a x) h;have hw:i64.wrap ((k:Int)+1)=((k+1:Nat):Int):=(w64 (by omega) (by omega)).trans (by omega)
  repeat' refine QG (by simp;omega) ?_
  refine QF ?_ ?_<;>intro hb
  .exact⟨_,.inl ⟨rfl,by rw[hf.1 hb];rfl,rfl⟩,rfl,rfl,_,QWr,⟨rfl,trivial⟩⟩
  .refine⟨k+1,by omega,by show a.n-(k+1)<a.n-k;omega,λe J h=>by unfold ijR at h ⊢;rw[hf.2 hb];exact h,rfl,rfl,_,QWq _ _ _ (k+1),?_⟩
   repeat' first|with_reducible refine QP ?_ ?_|exact tv|exact qRr|exact hw|refine aI ?_ ?_
 .have h:a.n<=k:=by have:=qdf h;omega
  exact⟨_,.inr ⟨rfl,by rw[show a.n-k=0 by omega];rfl,rfl⟩,rfl,rfl,_,QcZ,trivial⟩
abbrev ijH(P:Program)(a:Rw Jn)(x:Jn):Hnd:={ hnd (mkE P Yn) 1 with loop:=λ_=>JP (a.n<=1000000) (KH 8 [] (ijJ a x 0) (ijX (ijQ a x) a.n)) }
theorem Qeh(x:Jn)(G:Ctx)(hrd:G.rd=none)(hG:G.n=8):Qx (mkE prog Yn) G (ijH prog a x) (Ql f48):=by
 refine KO (body:=QI f48 0) (QO QAx) hrd (by kernel_rfl) ?_
 refine Jj λhl=>?_;refine Vq (n0:=8) (QO QAx) (by omega) (λs hs=>Qw (QO QAx) 0 G _ hrd) (λs hs=>(by decide:8<=16)) ?_ (QYg a x hl) (s0:=0) (Nat.zero_le _) ?_
 .rintro s e J (⟨_,_,rfl⟩|⟨_,_,rfl⟩)<;>exact(by decide:8<=16)
 .rintro e J (⟨rfl,h,rfl⟩|⟨rfl,h,rfl⟩)
  .exact⟨_,qmc,h,rfl,rfl⟩
  .exact⟨_,List.mem_cons_of_mem _ qmc,h,rfl,rfl⟩
def ijF:WF ((Rw Jn)×Jn×Unit):=λ|(a,(x,_))=>(decide (a.n<=1000000),.bool false (inR a x),[])
def ijC:FC:=wFC ijF
theorem QhV(a:(Rw Jn))(x:Jn):Kn (mkE prog Yn) (ijH prog a x) f48 (Qe.vals 0 ((a,x,()):(Rw Jn)×Jn×Unit)) (Qe.blks 0 ((a,x,()):(Rw Jn)×Jn×Unit)) 8=QC.ask (a.n<=(1000000:Nat)) (QC.ask (0=0) (QC.ask (0=0) (QC.ask (0=0) (QC.ask (a.n=a.n) (QC.ask (cO=cO) (QC.ask ((↑a.n:Int)=(↑a.n:Int)) (QC.ask ((0:Int)=(0:Int)) (QC.ask (x.a=x.a) (QC.ask (x.i=x.i) (QC.ask (x.b=x.b) (QC.ask (x.j=x.j) (QC.ask (a.n<=a.n) (QC.ask (QB (4:Nat) a.n (λi=>QA.enc (a.get i)) λi=>QA.enc (a.get i)) (QC.both (QC.asm ((QU (ijQ a x) a.n (0:Nat)).isNone=false) (QC.all (λ(g0:Nat->Value)=>QC.leaf (AV.bool false true) ([])))) (QC.asm ((QU (ijQ a x) a.n (0:Nat)).isNone=true) (QC.all (λ(g1:Nat->Value)=>QC.leaf (AV.bool true false) ([])))))))))))))))))):=by kernel_rfl
theorem QYX:JQ (mkE prog Yn) (Ql f48) 8 ijF (λx_=>(ijH prog x_.1 x_.2.1)):=by
 refine⟨?_⟩;rintro⟨a,⟨x,⟨⟩⟩⟩ hp G h1 h2;exact Qeh a x G h1 h2
theorem Qgj:JR (mkE prog Yn) f48 8 ijF (λx_=>(ijH prog x_.1 x_.2.1)):=by
 refine⟨?_⟩;rintro⟨a,⟨x,⟨⟩⟩⟩ hp;refine⟨⟨rfl,by simp[ijF],rfl⟩,⟨?_⟩⟩
 rw[QhV a x];simp only[ijF]at hp;have hp:=qdt hp;refine Qq hp ?_
 repeat' first|refine Qq (show _=_ by with_reducible rfl) ?_|refine Qq (show _<=_ from qlr _) ?_|refine Qq (show QB _ _ _ _ from qRr) ?_
 refine Kf (Qh λh=>Qj λg=>?_) (Qh λh=>Qj λg=>?_)
 .exact Kd (show _=inR a x by simp only[inR,h];rfl) rfl
 .exact Kd (show _=inR a x by simp only[inR,h];rfl) rfl
theorem QTN:QS prog 48 ijC:=
 JX (QO QAx) func48 (by kernel_rfl) (by kernel_rfl) (by decide) QYX Qgj
def ql:Tab:=Qa Yn 48 ijC
theorem QHS:Qd ql:=QAx.add QTN
theorem QSm{a:Rw Jn}(hn:a.n=L.length)(hg:∀ i (h:i<L.length),a.get i=L[i])(x:Jn):inR a x=inJ L x:=by
 have hq:∀ i (h:i<L.length),ijQ a x i=eqJ L[i] x:=λi h=>by unfold ijQ;rw[hg i h];rfl
 unfold inR;cases hf:QU (ijQ a x) a.n 0 with
 | none=>
  refine(QJq λhx=>?_).symm;obtain⟨i,hi,rfl⟩:=List.mem_iff_getElem.1 hx;have:=QEE hf i (Nat.zero_le _) (by omega)
  rw[hq i hi,Hn.2 rfl]at this;cases this
 | some i=>
  obtain⟨_,h2,h3,_⟩:=QGz hf;have hi:i<L.length:=by omega
  rw[hq i hi]at h3;exact(vc.2 (Hn.1 h3 ▸ List.getElem_mem hi)).symm
def QAZ:WF (Lay×Int×Unit):=λ|(x,(s,_))=>(decide ((0<=x.turn/\x.turn<=3)/\0<=s/\s<=3),vi (onS x s),[])
def QME:FC:=wFC QAZ
theorem QbZ(x:Lay)(s:Int):Kn (mkE prog ql) (hnd (mkE prog ql) 0) f74 (Qe.vals 0 ((x,s,()):Lay×Int×Unit)) (Qe.blks 0 ((x,s,()):Lay×Int×Unit)) 8=QC.leaf (vi ((i64.wrap (i64.wrap (s+(4:Int))-x.turn)).tmod (4:Int))) ([]):=by kernel_rfl
theorem QhN:JQ (mkE prog ql) (Ql f74) 8 QAZ (λx_=>(hnd (mkE prog ql) 0)):=by
 refine⟨?_⟩;rintro⟨x,⟨s,⟨⟩⟩⟩ hp G h1 h2;exact Qw (QO QHS) 0 G _ h1
theorem Qf9:JR (mkE prog ql) f74 8 QAZ (λx_=>(hnd (mkE prog ql) 0)):=by
 refine⟨?_⟩;rintro⟨x,⟨s,⟨⟩⟩⟩ hp;refine⟨⟨rfl,by simp[QAZ],rfl⟩,⟨?_⟩⟩
 rw[QbZ x s];simp only[QAZ]at hp;obtain⟨h1,h2,h3⟩:=qdt hp
 have hw:(i64.wrap (i64.wrap (s+4)-x.turn)).tmod 4=onS x s:=by
  rw[w64 (n:=s+4) (by omega) (by omega),w64 (by omega) (by omega)];rfl
 .exact Kd ⟨rfl,hw⟩ rfl
theorem Qh2:QS prog 74 QME:=
 JX (QO QHS) func74 (by kernel_rfl) (by kernel_rfl) (by decide) QhN Qf9
def Js:Tab:=Qa ql 74 QME
theorem HU:Qd Js:=QHS.add Qh2
def mxS:List (Nat×AV):=[(1,.slz 1 0 l.n (.of 0)),(2,.ptr 8 0 0),(5,.slz 32 0 f.length (.of 0)),(6,.int false .i64 c)]
def mxB:List (Nat×Blk):=[rwJ true 32 f,(8,.cells 0 28 (KX d))]++Qm.blk 0 d.ps++Qm.blk 1 l
def qF:JSt:=⟨91,mxS l f c,mxB d l f,40⟩
def YO(c k:Nat):JSt:=⟨91,mxS l f c++[(7,.int true .i64 k)],mxB d l f,40⟩
def mxE:JSt:=⟨91,[(5,.slz 32 0 f.length (.of 0))],[rwJ true 32 f],40⟩
def QP6:Ex->List Nat
 | .normal=>[1,2,5,6]
 | .exit _=>[5]
 | .ret=>[]
def QDP:Ex->List Nat
 | .normal=>[1,2,5,6,7]
 | .exit _=>[1,2,5,6]
 | .ret=>[]
noncomputable abbrev wbt(c:Nat)(f:List Jn)(l:Rw Lay):List AV:=[.slz 1 0 l.n cO,.ptr 8 0 0,.slz 32 0 f.length cO,vi (c:Int)]
noncomputable abbrev QOz(f:List Jn)(l:Rw Lay):List AV:=
  (.nilp::.ptr 91 0 0::List.append (wbt c f l) ([vj 1]))
noncomputable abbrev Yx:Nat×Blk:=
  (1,.frz kB l.n λi=>QA.enc (l.get i))
noncomputable abbrev Y3:Nat×Blk:=
  (8,.cells 0 28 (waf d))
abbrev ZV:List CK:=
  (waZ)
noncomputable abbrev Yt:Nat×Blk:=
  (0,.frz kE d.ps.n λi=>QA.enc (d.ps.get i))
noncomputable abbrev jx(l:Rw Lay):List (Nat×Blk):=
  [(Yx l),(Y3 d),(32,.rowz true 67 ZV f.length λi=>QA.enc (f.getD i (Jn.mk (0:Int) (0:Int) (0:Int) (0:Int)))),(Yt d)]
noncomputable abbrev QLE(l:Rw Lay):List AV:=
  [vi (l.get (i64.wrap ((c:Int)+1)).toNat).piece,vi (onS (l.get (i64.wrap ((c:Int)+1)).toNat) (3:Int)),vi (l.get
  c).piece,vi (onS (l.get c) (1:Int))]
noncomputable abbrev QKX(f:List Jn)(l:Rw Lay):Nat×Blk:=
  (608,.rowz true 67 ZV (f.length+1) (Q9 f.length (λi=>QA.enc (f.getD i (Jn.mk (0:Int) (0:Int) (0:Int) (0:Int)))) (KI [(QLE c l)] 0)))
noncomputable abbrev QTc(l:Rw Lay):List AV:=
  [vi (l.get c).piece,vi (onS (l.get c) (1:Int)),vi (l.get (i64.wrap ((c:Int)+1)).toNat).piece,vi (onS (l.get
  (i64.wrap ((c:Int)+1)).toNat) (3:Int))]
noncomputable abbrev QKK(f:List Jn)(l:Rw Lay):Nat×Blk:=
  (528,.rowz true 67 ZV (f.length+1) (Q9 f.length (λi=>QA.enc (f.getD i (Jn.mk (0:Int) (0:Int) (0:Int) (0:Int)))) (KI [(QTc c l)] 0)))
theorem QUY :exec (mkE prog Js) (hnd (mkE prog Js) 2) (QZ (QI f36 0)) (JSt.inst (YO d l f c 0) g) (Q6 [] QDP) = .need (!decide (d.wide=0)) (.br ((c:Int).tmod d.wide==i64.wrap (d.wide-1)) (.leaf (.tup (QOz c f l)) ((jx d f l))) (.br (decide (i64.wrap ((c:Int)+1)≥(l.n:Int))) (.leaf (.tup (QOz c f l)) ((jx d f l))) (.need (decide ((0:Int)<=(c:Int)/\(c:Int)<(l.n:Int))&&decide (l.n<=l.n)) (.need (decide (c<l.n)) (.need (decide ((0:Int)<=(c:Int)/\(c:Int)<(l.n:Int))&&decide (l.n<=l.n)) (.need (decide (c<l.n)) (.need (true&&(true&&true)&&decide (((0:Int)<=(l.get c).turn/\(l.get c).turn<=3)/\(0:Int)<=1/\(1:Int)<=3)) (.need (decide ((0:Int)<=i64.wrap ((c:Int)+1)/\i64.wrap ((c:Int)+1)<(l.n:Int))&&decide (l.n<=l.n)) (.need (decide ((i64.wrap ((c:Int)+1)).toNat<l.n)) (.need (decide ((0:Int)<=i64.wrap ((c:Int)+1)/\i64.wrap ((c:Int)+1)<(l.n:Int))&&decide (l.n<=l.n)) (.need (decide ((i64.wrap ((c:Int)+1)).toNat<l.n)) (.need (true&&(true&&true)&&decide (((0:Int)<=(l.get (i64.wrap ((c:Int)+1)).toNat).turn/\(l.get (i64.wrap ((c:Int)+1)).toNat).turn<=3)/\(0:Int)<=3/\(3:Int)<=3)) (.br (decide ((l.get c).piece>(l.get (i64.wrap ((c:Int)+1)).toNat).piece)) (.need (decide (f.length<=f.length)&&(true&&decide ((f.length+1+(f.length+1) / 4+192)*32<=281474976710656/\f.length+1<=9223372036854775807))) (.leaf (.tup [.nilp,.ptr 91 0 0,.slz 1 0 l.n cO,.ptr 8 0 0,.slz 608 0 (f.length+1) cO,vi (c:Int),vj 1]) ([(Yx l),(Y3 d),(QKX c f l),(Yt d)]))) (.need (decide (f.length<=f.length)&&(true&&decide ((f.length+1+(f.length+1) / 4+192)*32<=281474976710656/\f.length+1<=9223372036854775807))) (.leaf (.tup [.nilp,.ptr 91 0 0,.slz 1 0 l.n cO,.ptr 8 0 0,.slz 528 0 (f.length+1) cO,vi (c:Int),vj 1]) ([(Yx l),(Y3 d),(QKK c f l), (Yt d)])))))))))))))))):=by kernel_rfl
abbrev Wo:List Prop:=
  [0=0,l.n=l.n,cO=cO,0=0,0=0,0=0]
abbrev QTK:List Prop:=
  ([f'.length<=f.length,QB 4 f'.length (λi=>QA.enc (f.getD i (Jn.mk (0:Int) (0:Int) (0:Int) (0:Int)))) λi=>QA.enc (f'.getD i (Jn.mk (0:Int) (0:Int) (0 :
  Int) (0:Int)))]++waY d)
abbrev qB:List Prop:=
  ((waD d++[0=0,d.ps.n=d.ps.n,cO =
  cO])++wae d++[l.n<=l.n,QB 2 l.n (λi=>QA.enc (l.get i)) λi=>QA.enc
  (l.get i)])
theorem QS7(c:Nat):QE 8 (List.append (wbt c f l) ([vj 1])) ((jx d f l)) (YO d l f' c 1)=(some ((Wo l) ++ [f.length=f'.length,cO=cO,(c:Int)=(c:Int),(1:Int)=1]++(QTK d f f')++(qB d l))):=by kernel_rfl
theorem QcK(c:Nat):QE 8 [.slz 1 0 l.n cO,.ptr 8 0 0,.slz 608 0 (f.length+1) cO,vi (c:Int),vj 1] ([(Yx l),(Y3 d),(QKX c f l),(Yt d)]) (YO d l f' c 1)=(some ((Wo l)++([f.length+1=f'.length,cO=cO,(c:Int)=(c:Int),(1:Int)=1,f'.length<=f.length+1,QB 4 f'.length (Q9 f.length (λi=>QA.enc (f.getD i (Jn.mk (0:Int) (0:Int) (0:Int) (0:Int)))) (KI [(QLE c l)] 0)) λi=>QA.enc (f'.getD i (Jn.mk (0:Int) (0:Int) (0:Int) (0:Int)))]++waY d)++(qB d l))):=by kernel_rfl
theorem QhM(c:Nat):QE 8 [.slz 1 0 l.n cO,.ptr 8 0 0,.slz 528 0 (f.length+1) cO,vi (c:Int),vj 1] ([(Yx l),(Y3 d),(QKK c f l),(Yt d)]) (YO d l f' c 1)=(some ((Wo l)++([f.length+1=f'.length,cO=cO,(c:Int)=(c:Int),(1:Int)=1,f'.length<=f.length+1,QB 4 f'.length (Q9 f.length (λi=>QA.enc (f.getD i (Jn.mk (0:Int) (0:Int) (0:Int) (0:Int)))) (KI [(QTc c l)] 0)) λi=>QA.enc (f'.getD i (Jn.mk (0:Int) (0:Int) (0:Int) (0:Int)))]++waY d)++(qB d l))):=by kernel_rfl
noncomputable abbrev QF7(d:Puz)(l:Rw Lay):List AV:=
  [vi (l.get (i64.wrap ((c:Int)+d.wide)).toNat).piece,vi (onS (l.get (i64.wrap ((c:Int)+d.wide)).toNat) (0:Int)),.int false .i64
  (l.get c).piece,vi (onS (l.get c) (2:Int))]
noncomputable abbrev QJi(d:Puz)(l:Rw Lay):List AV:=
  [vi (l.get c).piece,vi (onS (l.get c) (2:Int)),vi (l.get (i64.wrap ((c:Int)+d.wide)).toNat).piece,vi (onS (l.get
  (i64.wrap ((c:Int)+d.wide)).toNat) (0:Int))]
theorem QW3 :exec (mkE prog Js) (hnd (mkE prog Js) 2) (QZ (QI f36 0)) (JSt.inst (YO d l f c 1) g) (Q6 [] QDP) = .br (decide (i64.wrap ((c:Int)+d.wide)≥(l.n:Int))) (.leaf (.tup (.nilp::.ptr 91 0 0::List.append (wbt c f l) ([vj 2]))) ((jx d f l))) (.need (decide ((0:Int)<=(c:Int)/\(c:Int)<(l.n:Int))&&decide (l.n<=l.n)) (.need (decide (c<l.n)) (.need (decide ((0:Int)<=(c:Int)/\(c:Int)<(l.n:Int))&&decide (l.n<=l.n)) (.need (decide (c<l.n)) (.need (true&&(true&&true)&&decide (((0:Int)<=(l.get c).turn/\(l.get c).turn<=3)/\(0:Int)<=2/\(2:Int)<=3)) (.need (decide ((0:Int)<=i64.wrap ((c:Int)+d.wide)/\i64.wrap ((c:Int)+d.wide)<(l.n:Int))&&decide (l.n<=l.n)) (.need (decide ((i64.wrap ((c:Int)+d.wide)).toNat<l.n)) (.need (decide ((0:Int)<=i64.wrap ((c:Int)+d.wide)/\i64.wrap ((c:Int)+d.wide)<(l.n:Int))&&decide (l.n<=l.n)) (.need (decide ((i64.wrap ((c:Int)+d.wide)).toNat<l.n)) (.need (true&&(true&&true)&&decide (((0:Int)<=(l.get (i64.wrap ((c:Int)+d.wide)).toNat).turn/\(l.get (i64.wrap ((c:Int)+d.wide)).toNat).turn<=3)/\(0:Int)<=0/\(0:Int)<=3)) (.br (decide ((l.get c).piece>(l.get (i64.wrap ((c:Int)+d.wide)).toNat).piece)) (.need (decide (f.length<=f.length)&&(true&&decide ((f.length+1+(f.length+1) / 4+192)*32<=281474976710656/\f.length+1<=9223372036854775807))) (.leaf (.tup [.nilp,.ptr 91 0 0,.slz 1 0 l.n cO,.ptr 8 0 0,.slz 656 0 (f.length+1) cO,vi (c:Int),vj 2]) ([(Yx l),(Y3 d),(656,.rowz true 67 ZV (f.length+1) (Q9 f.length (λi=>QA.enc (f.getD i (Jn.mk (0:Int) (0:Int) (0:Int) (0:Int)))) (KI [(QF7 c d l)] 0))),(Yt d)]))) (.need (decide (f.length<=f.length)&&(true&&decide ((f.length+1+(f.length+1) / 4+192)*32<=281474976710656/\f.length+1<=9223372036854775807))) (.leaf (.tup [.nilp,.ptr 91 0 0,.slz 1 0 l.n cO,.ptr 8 0 0,.slz 576 0 (f.length+1) cO,vi (c:Int),vj 2]) ([(Yx l),(Y3 d), (576,.rowz true 67 ZV (f.length+1) (Q9 f.length (λi=>QA.enc (f.getD i (Jn.mk (0:Int) (0:Int) (0:Int) (0:Int)))) (KI [(QJi c d l)] 0))),(Yt d)])))))))))))))):=by kernel_rfl
theorem Qav(c:Nat):QE 8 (List.append (wbt c f l) ([vj 2])) ((jx d f l)) (YO d l f' c 2)=(some ((Wo l) ++ [f.length=f'.length,cO=cO,(c:Int)=(c:Int),(2:Int)=2]++(QTK d f f')++(qB d l))):=by kernel_rfl
theorem QYi(c:Nat):QE 8 [.slz 1 0 l.n cO,.ptr 8 0 0,.slz 656 0 (f.length+1) cO,vi (c:Int),vj 2] ([(Yx l),(Y3 d),(656,.rowz true 67 ZV (f.length+1) (Q9 f.length (λi=>QA.enc (f.getD i (Jn.mk (0:Int) (0:Int) (0:Int) (0:Int)))) (KI [(QF7 c d l)] 0))),(Yt d)]) (YO d l f' c 2)=(some ((Wo l)++([f.length+1=f'.length,cO=cO,(c:Int)=(c:Int),(2:Int)=2,f'.length<=f.length+1,QB 4 f'.length (Q9 f.length (λi=>QA.enc (f.getD i (Jn.mk (0:Int) (0:Int) (0:Int) (0:Int)))) (KI [(QF7 c d l)] 0)) λi=>QA.enc (f'.getD i (Jn.mk (0:Int) (0:Int) (0:Int) (0:Int)))]++waY d)++(qB d l))):=by kernel_rfl
theorem QXq(c:Nat):QE 8 [.slz 1 0 l.n cO,.ptr 8 0 0,.slz 576 0 (f.length+1) cO,vi (c:Int),vj 2] ([(Yx l),(Y3 d),(576,.rowz true 67 ZV (f.length+1) (Q9 f.length (λi=>QA.enc (f.getD i (Jn.mk (0:Int) (0:Int) (0:Int) (0:Int)))) (KI [(QJi c d l)] 0))),(Yt d)]) (YO d l f' c 2)=(some ((Wo l)++([f.length+1=f'.length,cO=cO,(c:Int)=(c:Int),(2:Int)=2,f'.length<=f.length+1,QB 4 f'.length (Q9 f.length (λi=>QA.enc (f.getD i (Jn.mk (0:Int) (0:Int) (0:Int) (0:Int)))) (KI [(QJi c d l)] 0)) λi=>QA.enc (f'.getD i (Jn.mk (0:Int) (0:Int) (0:Int) (0:Int)))]++waY d)++(qB d l))):=by kernel_rfl
theorem QV1 :exec (mkE prog Js) (hnd (mkE prog Js) 2) (QZ (QI f36 0)) (JSt.inst (YO d l f c 2) g) (Q6 [] QDP) = .leaf (.tup (.ptr 2 0 0::.ptr 91 0 0::wbt c f l)) ((jx d f l)):=by kernel_rfl
theorem QfZ :QE 8 (wbt c f l) ((jx d f l)) (qF d l f c)=(some ((Wo l)++([f.length=f.length,cO=cO,(c:Int)=(c:Int)]++wah f++(waY d))++(qB d l))):=by kernel_rfl
abbrev mxH(P:Program)(d:Puz)(l:Rw Lay)(f f':List Jn)(c:Nat):Hnd:={ hnd (mkE P Js) 2 with loop:=λ_=>JP (c<l.n) (KH 8 [] (YO d l f c 0) [(True,.exit 2,qF d l f' c)]) }
theorem QfI(c:Nat)(g:Nat->Value):exec (mkE prog Js) (mxH prog d l f f' c) (QI f36 0) (JSt.inst (qF d l f c) g) (Q6 [] QP6) = .br (decide ((c:Int)<(l.n:Int))) (.ak (([c<l.n,0=0,l.n=l.n,cO=cO,0=0,0=0,0=0,f.length=f.length,cO=cO,(c:Int)=(c:Int),(0:Int)=0]++wah f)++wab d++([cO=cO]++wae d++[l.n<=l.n,QB 2 l.n (λi=>QA.enc (l.get i)) λi=>QA.enc (l.get i)])) (.asm (True) (.all (λ(g0:Nat->Value)=>.leaf (.tup [.nilp,.ptr 91 0 0,.slz 1 0 l.n cO,.ptr 8 0 0, .slz 32 0 f'.length cO,vi (i64.wrap ((c:Int)+1))]) ([(Yx l),(Y3 d),(32,.rowz true 67 ZV f'.length λi=>QA.enc (f'.getD i (Jn.mk (0:Int) (0:Int) (0:Int) (0:Int)))),(Yt d)]))))) (.leaf (.tup [.ptr 0 0 0,.ptr 91 0 0,.slz 32 0 f.length cO]) ([(32,.rowz true 67 ZV f.length λi=>QA.enc (f.getD i (Jn.mk (0:Int) (0:Int) (0:Int) (0:Int))))])):=by kernel_rfl
theorem QZF(c c':Nat):QE 8 [.slz 1 0 l.n cO,.ptr 8 0 0,.slz 32 0 f'.length cO,vi (i64.wrap ((c:Int)+1))] ([(Yx l),(Y3 d),(32,.rowz true 67 ZV f'.length λi=>QA.enc (f'.getD i (Jn.mk (0:Int) (0:Int) (0:Int) (0:Int)))),(Yt d)]) (qF d l f' c')=(some ((Wo l)++([f'.length=f'.length,cO=cO,i64.wrap ((c:Int)+1)=(c':Int)]++was f'++(waY d))++(qB d l))):=by kernel_rfl
noncomputable abbrev wby(f:List Jn):List Prop:=[f.length<=f.length,QB (4:Nat) f.length (λi=>QA.enc (f.getD i (Jn.mk (0:Int) (0:Int) (0:Int) (0:Int)))) λi=>QA.enc (f.getD i (Jn.mk (0:Int) (0:Int) (0:Int) (0:Int)))]
theorem Qa6:QE 8 [AV.slz (32:Nat) (0:Nat) f.length cO] ([((32:Nat),Blk.rowz true (67:Nat) [CK.int i64,CK.int i64,CK.int i64,CK.int i64] f.length λi=>QA.enc (f.getD i (Jn.mk (0:Int) (0:Int) (0:Int) (0:Int))))]) (mxE f)=( some ([0=0,f.length=f.length,cO=cO]++wby f)):=by kernel_rfl
def mjn(s t o:Int):Jn:=cond (decide ((l.get c).piece>(l.get o.toNat).piece)) ⟨(l.get o.toNat).piece,onS (l.get o.toNat) t,(l.get c).piece,onS (l.get c) s⟩ ⟨(l.get c).piece,onS (l.get c) s,(l.get o.toNat).piece,onS (l.get o.toNat) t⟩
def XS:List Jn:=cond ((c:Int).tmod d.wide==i64.wrap (d.wide-1)) [] (cond (decide (i64.wrap ((c:Int)+1)≥(l.n:Int))) [] [mjn l c 1 3 (i64.wrap ((c:Int)+1))])
def ZI:List Jn:=cond (decide (i64.wrap ((c:Int)+d.wide)≥(l.n:Int))) [] [mjn l c 2 0 (i64.wrap ((c:Int)+d.wide))]
def mxF(c:Nat):List Jn:=(List.range c).flatMap λc=>XS d l c++ZI d l c
def mxP:Nat->List Jn
 | 0=>mxF d l c
 | 1=>mxF d l c++XS d l c
 | _=>mxF d l (c+1)
theorem QMK:mxF d l (c+1)=(mxF d l c++XS d l c)++ZI d l c:=by
 unfold mxF;rw[List.range_succ,List.flatMap_append,List.append_assoc];simp
theorem QS9:(XS d l c).length<=1:=by
 unfold XS;cases ((c:Int).tmod d.wide==i64.wrap (d.wide-1))<;>cases decide (i64.wrap ((c:Int)+1)≥(l.n:Int))<;>simp
theorem QXE:(ZI d l c).length<=1:=by
 unfold ZI;cases decide (i64.wrap ((c:Int)+d.wide)≥(l.n:Int))<;>simp
theorem vm(d:Puz)(l:Rw Lay):∀ c,(mxF d l c).length<=2*c
 | 0=>qlr _
 | c+1=>by
  have h:=vm d l c;have h0:=QS9 d l c;have h1:=QXE d l c;rw[QMK,List.length_append,List.length_append];omega
theorem Xh(x:Jn):(f++[x]).length=f.length+1:=List.length_append
theorem QD6(o:List Jn)(x:Jn):QB 4 (o++[x]).length (Q9 o.length (λi=>QA.enc (o.getD i ⟨0,0,0,0⟩)) (KI [[.int false .i64 x.a,.int false .i64 x.i,.int false .i64 x.b,.int false .i64 x.j]] 0)) λi=>QA.enc ((o++[x]).getD i ⟨0,0,0,0⟩):=by
 rw[Xh];exact QRQ o x
structure QBU (d:Puz) (l:Rw Lay):Prop where
 n:l.n<=1000
 w:1<=d.wide/\d.wide<=1000
 t:∀ i,i<l.n->0<=(l.get i).turn/\(l.get i).turn<=3
set_option maxHeartbeats 1000000 in
theorem QYy{d:Puz}{l:Rw Lay}(hx:QBU d l){c:Nat}(hc:c<l.n):J3 (λk=>YO d l (mxP d l c k) c k) (λk=>k<=2) (λk=>2-k) (λ_ e J=>e = .exit 2/\J=qF d l (mxF d l (c+1)) c) 8 QDP [] (mkE prog Js) (λ_=>hnd (mkE prog Js) 2) (QZ (QI f36 0)):=by
 have hn:=hx.n;obtain⟨hw1,hw2⟩:=hx.w;have w1:i64.wrap ((c:Int)+1)=(c:Int)+1:=w64 (by omega) (by omega)
 have w2:i64.wrap ((c:Int)+d.wide)=(c:Int)+d.wide:=w64 (by omega) (by omega)
 have tc:=hx.t c hc;have hF:=vm d l c;have hF0:=QS9 d l c;refine⟨λk g hk=>?_⟩
 match k,hk with
 | 0,_=>
  have e:mxP d l c 1=mxP d l c 0++XS d l c:=rfl;have hf:(mxP d l c 0).length<=2000:=by show(mxF d l c).length<=2000;omega
  generalize mxP d l c 0=f at e hf;have et:=QUY d l f c g;refine Qg et ?_;clear et;refine QG ?_ ?_;rotate_left;refine QF ?_ ?_<;>intro b0
  .refine⟨1,by decide,by decide,λ_ _ r=>r,rfl,rfl,_,QS7 d l f (mxP d l c 1) c,?_⟩
   rw[e,XS,b0,cond_true,List.append_nil]
   repeat' first|with_reducible refine QP ?_ ?_|exact tv|with_reducible exact qRr|exact rfl|refine aI ?_ ?_
  refine QF ?_ ?_<;>intro b1
  .refine⟨1,by decide,by decide,λ_ _ r=>r,rfl,rfl,_,QS7 d l f (mxP d l c 1) c,?_⟩
   rw[e,XS,b0,cond_false,b1,cond_true,List.append_nil]
   repeat' first|with_reducible refine QP ?_ ?_|exact tv|with_reducible exact qRr|exact rfl|refine aI ?_ ?_
  have g1:=qdf b1;have t2:=hx.t (i64.wrap ((c:Int)+1)).toNat (by omega)
  iterate 10 (refine QG ?_ ?_;rotate_left)
  refine QF (λb2=>?_) (λb2=>?_);refine QG ?_ ?_;rotate_left
  .refine⟨1,by decide,by decide,λ_ _ r=>r,rfl,rfl,_,QcK d l f (mxP d l c 1) c,?_⟩
   rw[e,XS,b0,cond_false,b1,cond_false,mjn,b2,cond_true]
   repeat' first|with_reducible refine QP ?_ ?_|exact tv|with_reducible exact qRr|exact Xh f _|exact(Xh f _).symm|exact Nat.le_of_eq (Xh f _)|exact QD6 f _|exact rfl|refine aI ?_ ?_
  refine QG ?_ ?_;rotate_left
  .refine⟨1,by decide,by decide,λ_ _ r=>r,rfl,rfl,_,QhM d l f (mxP d l c 1) c,?_⟩
   rw[e,XS,b0,cond_false,b1,cond_false,mjn,b2,cond_false]
   repeat' first|with_reducible refine QP ?_ ?_|exact tv|with_reducible exact qRr|exact Xh f _|exact(Xh f _).symm|exact Nat.le_of_eq (Xh f _)|exact QD6 f _|exact rfl|refine aI ?_ ?_
  all_goals first|rfl|(simp;omega)
 | 1,_=>
  have e:mxP d l c 2=mxP d l c 1++ZI d l c:=QMK d l c;have hf:(mxP d l c 1).length<=2001:=by show(mxF d l c++XS d l c).length<=2001;rw[List.length_append];omega
  generalize mxP d l c 1=f at e hf;have et:=QW3 d l f c g;refine Qg et ?_;clear et;refine QF ?_ ?_<;>intro b0
  .refine⟨2,by decide,by decide,λ_ _ r=>r,rfl,rfl,_,Qav d l f (mxP d l c 2) c,?_⟩
   rw[e,ZI,b0,cond_true,List.append_nil]
   repeat' first|with_reducible refine QP ?_ ?_|exact tv|with_reducible exact qRr|exact rfl|refine aI ?_ ?_
  have g1:=qdf b0;have t2:=hx.t (i64.wrap ((c:Int)+d.wide)).toNat (by omega)
  iterate 10 (refine QG ?_ ?_;rotate_left)
  refine QF (λb1=>?_) (λb1=>?_);refine QG ?_ ?_;rotate_left
  .refine⟨2,by decide,by decide,λ_ _ r=>r,rfl,rfl,_,QYi d l f (mxP d l c 2) c,?_⟩
   rw[e,ZI,b0,cond_false,mjn,b1,cond_true]
   repeat' first|with_reducible refine QP ?_ ?_|exact tv|with_reducible exact qRr|exact Xh f _|exact(Xh f _).symm|exact Nat.le_of_eq (Xh f _)|exact QD6 f _|exact rfl|refine aI ?_ ?_
  refine QG ?_ ?_;rotate_left
  .refine⟨2,by decide,by decide,λ_ _ r=>r,rfl,rfl,_,QXq d l f (mxP d l c 2) c,?_⟩
   rw[e,ZI,b0,cond_false,mjn,b1,cond_false]
   repeat' first|with_reducible refine QP ?_ ?_|exact tv|with_reducible exact qRr|exact Xh f _|exact(Xh f _).symm|exact Nat.le_of_eq (Xh f _)|exact QD6 f _|exact rfl|refine aI ?_ ?_
  all_goals first|rfl|(simp;omega)
 | 2,_=>
  have et:=QV1 d l (mxF d l (c+1)) c g;refine Qg et ?_;clear et;refine⟨_,⟨rfl,rfl⟩,rfl,rfl,_,QfZ d l (mxF d l (c+1)) c,?_⟩
  repeat' first|with_reducible refine QP ?_ ?_|exact tv|with_reducible exact qRr|exact rfl|refine aI ?_ ?_
 | k+3,hk=>exact absurd hk (by omega)
theorem Qgu{d:Puz}{l:Rw Lay}(hx:QBU d l)(c:Nat)(G:Ctx)(hrd:G.rd=none)(hG:G.n<=8):Qx (mkE prog Js) G (mxH prog d l (mxF d l c) (mxF d l (c+1)) c) (QI f36 0):=by
 refine KO (body:=QZ (QI f36 0)) (QO HU) hrd (by kernel_rfl) ?_
 refine Jj λhc=>?_;refine Vq (I:=λk=>YO d l (mxP d l c k) c k) (n0:=8) (QO HU) hG (λj hj=>Qw (QO HU) 2 G _ hrd) (λj hj=>(by decide:8<=40)) ?_ (QYy hx hc) (s0:=0) (Nat.zero_le _) ?_
 .rintro s e J ⟨_,rfl⟩;exact(by decide:8<=40)
 .rintro e J ⟨rfl,rfl⟩;exact⟨_,qmc,trivial,rfl,rfl⟩
theorem QYL{d:Puz}{l:Rw Lay}(hx:QBU d l):J3 (λc=>qF d l (mxF d l c) c) (λc=>c<=l.n) (λc=>l.n-c) (λ_ e J=>e = .exit 0/\J=mxE (mxF d l l.n)) 8 QP6 [] (mkE prog Js) (λc=>mxH prog d l (mxF d l c) (mxF d l (c+1)) c) (QI f36 0):=by
 have hn:=hx.n;refine⟨λc g hk=>?_⟩;have hk:c<=l.n:=hk;have et:=QfI d l (mxF d l c) (mxF d l (c+1)) c g;refine Qg et ?_;clear et;refine QF (λb0=>?_) (λb0=>?_);have h:c<l.n:=by have:=qdt b0;omega
 have hw:i64.wrap ((c:Int)+1)=((c+1:Nat):Int):=VT h hn
 iterate 28 refine Qq (by first|exact tv|exact h|with_reducible exact qRr|exact rfl) ?_
 refine Qh λa0=>?_;refine Qj λg0=>?_;refine⟨c+1,h,by show l.n-(c+1)<l.n-c;omega,λ_ _ r=>r,rfl,rfl,_,QZF d l (mxF d l (c+1)) c (c+1),?_⟩
 rotate_left
 obtain rfl:c=l.n:=by have:=qdf b0;omega
 refine⟨_,⟨rfl,rfl⟩,rfl,rfl,_,Qa6 (mxF d l l.n),?_⟩
 rotate_left
 all_goals (repeat' first|with_reducible refine QP ?_ ?_|exact tv|with_reducible exact qRr|with_reducible exact hw|exact rfl|refine aI ?_ ?_)
def vz:Bool:=decide (l.n<=1000/\1<=d.wide/\d.wide<=1000)&&(List.range l.n).all λi=>decide (0<=(l.get i).turn/\(l.get i).turn<=3)
theorem QPm{d:Puz}{l:Rw Lay}:vz d l=true↔QBU d l:=by
 unfold vz;rw[qbA,qdE,List.all_eq_true];constructor
 .rintro⟨⟨h1,h2⟩,h3⟩;exact⟨h1,h2,λi hi=>qdt (h3 i (List.mem_range.2 hi))⟩
 .intro h;exact⟨⟨h.n,h.w⟩,λi hi=>qde (h.t i (List.mem_range.1 hi))⟩
abbrev mxL(F:List Jn):Code->St->(Ex->St->QC)->QC:=λ_=>KH 8 [] (qF d l [] (0:Nat)) [(True,.exit 0,mxE F)]
theorem QbO{d:Puz}{l:Rw Lay}(hx:QBU d l)(G:Ctx)(hrd:G.rd=none)(hG:G.n=8):Qx (mkE prog Js) G { hnd (mkE prog Js) 2 with loop:=mxL d l (mxF d l l.n) } (Ql f36):=by
 refine KO (body:=QI f36 0) (QO HU) hrd (by kernel_rfl) ?_
 exact Vq (I:=λc=>qF d l (mxF d l c) c) (n0:=8) (ids':=[]) (X:=[(True,.exit 0,mxE (mxF d l l.n))]) (QO HU) (by omega) (λc _=>Qgu hx c G hrd (by omega)) (λj hj=>(by decide:8<=40)) (by rintro s e J ⟨_,rfl⟩;exact(by decide:8<=40)) (QYL hx) (s0:=0) (Nat.zero_le _) (by
  rintro e J ⟨rfl,rfl⟩;exact⟨_,qmc,trivial,rfl,rfl⟩)
theorem QVc:QE 8 [.slz 32 0 f.length cO] [rwJ true 32 f] (KN 8 (.slz 0 0 f.length cO) [rwJ true 0 f])=( some ([0=0,f.length=f.length,cO=cO]++wby f)):=by kernel_rfl
def QBP:WF (Puz×(Rw Lay)×Unit):=λ|(d,(l,_))=>(vz d l,.slz 0 0 (mxF d l l.n).length (.of 0),[rwJ true 0 (mxF d l l.n)])
def QN0:FC:=wFC QBP
theorem QZg(l:(Rw Lay)):Kn (mkE prog Js) { hnd (mkE prog Js) 2 with loop:=mxL d l (mxF d l l.n) } f36 (Qe.vals 0 ((d,l,()):Puz×(Rw Lay)×Unit)) (Qe.blks 0 ((d, l,()):Puz×(Rw Lay)×Unit)) 8 = .ak ([0=0,l.n=l.n,cO=cO,0=0,0=0,0=0,(0:Int)=0,0=0]++wab d++([cO=cO]++wae d++[l.n<=l.n,QB 2 l.n (λi=>QA.enc (l.get i)) λi=>QA.enc (l.get i)])) (.asm (True) (.all (λ(g0:Nat->Value)=>.leaf (.slz 32 0 (mxF d l l.n).length cO) ([(32,.rowz true 67 (waZ) (mxF d l l.n).length λi=>QA.enc ((mxF d l l.n).getD i (Jn.mk (0:Int) (0:Int) (0:Int) (0:Int))))])))):=by kernel_rfl
theorem Qfq:JQ (mkE prog Js) (Ql f36) 8 QBP (λx_=>{ hnd (mkE prog Js) 2 with loop:=mxL x_.1 x_.2.1 (mxF x_.1 x_.2.1 x_.2.1.n) }):=by
 refine⟨?_⟩;rintro⟨d,⟨l,⟨⟩⟩⟩ hp G h1 h2;exact QbO (QPm.1 hp) G h1 h2
theorem Qcd:JR (mkE prog Js) f36 8 QBP (λx_=>{ hnd (mkE prog Js) 2 with loop:=mxL x_.1 x_.2.1 (mxF x_.1 x_.2.1 x_.2.1.n) }):=by
 refine⟨?_⟩;rintro⟨d,⟨l,⟨⟩⟩⟩ hp;refine⟨⟨rfl,by simp[QBP,rwJ,Blk.own,Blk.all],rfl⟩,⟨?_⟩⟩
 rw[QZg d l];simp only[QBP]at hp
 iterate 23 refine Qq (by first|exact tv|with_reducible exact qRr|exact rfl) ?_
 refine Qh λa0=>?_;refine Qj λg0=>?_;refine⟨rfl,rfl,_,QVc _,?_⟩
 rotate_left
 all_goals (repeat' first|with_reducible refine QP ?_ ?_|exact tv|with_reducible exact qRr|exact rfl|refine aI ?_ ?_)
theorem Qbj:QS prog 36 QN0:=
 JX (QO HU) func36 (by kernel_rfl) (by kernel_rfl) (by decide) Qfq Qcd
end Go.Proofs.YtekbmehgcofnkaaGreat
namespace Go.SX
open Go Go.RowKit Go.Proofs.YtekbmehgcofnkaaGreat
def jk(fc:FC):FC:=λargs nid _=>fc args nid (XW (AV.idsFromL 0 args) [])
theorem zQ{P:Program}{f:FuncId}{fc:FC}(h:QS P f fc):QS P f (jk fc):=
 ⟨h.1,λargs nid _ r w lk blks eff hH ha hv he hp=>h.2 args nid (XW (AV.idsFromL 0 args) []) r w lk blks eff hH ha hv he hp⟩
end Go.SX
namespace Go.Proofs.YtekbmehgcofnkaaGreat
open Go.SX
def QPW:Tab:=Qa (Qa QK6 16 QA8) 40 (jk QHH)
theorem QaD:Qd QPW:=(QUe.add QLp).add (zQ QP7)
theorem QZd{α:Type}(f:Nat->List α)(k:Nat):(List.range (k+1)).flatMap f=(List.range k).flatMap f++f k:=by
 rw[List.range_succ,List.flatMap_append];simp
open Go.SX Go.SX.Told
def VV:Tab:=Qa (Qa (Qa (Qa (Qa QPW 43 (jk QFh)) 24 (jk QG1)) 36 (jk QN0)) 48 (jk ijC)) 45 (jk sjC)
theorem Gh:Qd VV:=((((QaD.add (zQ QQL)).add (zQ QRZ)).add (zQ Qbj)).add (zQ QTN)).add (zQ QKy)
variable {L:List Jn}(a:Rw Jn)(d:Puz)(B M:List Jn)(x y:List Lay)
def flS(n g:Int):List (Nat×AV):=[(1,.ptr 8 0 0),(4,.slz 89 0 M.length (.of 0)),(6,.slz 160 0 B.length (.of 0)),(8,.slz 216 0 x.length (.of 0)),(9,.slz 217 0 y.length (.of 0)),(10,vi n),(11,vi g),(12,.fn (.func 48) [])]
def flB:List (Nat×Blk):=[(8,.cells 0 28 (KX d)),rwJ true 89 M,rwJ true 160 B,rwY 216 x,rwY 217 y]++Qm.blk 0 d.ps
def QBr(n g:Int)(i:Nat):JSt:=⟨140,flS B M x y n g++[(65,.slz 160 0 B.length (.of 0)),(66,.int false .i64 B.length),(67,.int false .i64 i)],flB d B M x y,496⟩
def QJd(n g:Int):JSt:=⟨140,flS B M x y n g,flB d B M x y,496⟩
def QMn(B M A:List Jn)(n:Int):List (Nat×AV):=[(4,.slz 89 0 M.length (.of 0)),(6,.slz 160 0 B.length (.of 0)),(10,.int false .i64 n),(15,.slz 528 0 A.length (.of 0))]
def Ht(B M A T:List Jn)(n:Int)(i:Nat):JSt:=⟨140,QMn B M A n++[(12,.fn (.func 48) []),(107,.slz 592 0 T.length (.of 0)),(108,.int false .i64 T.length),(109,.int false .i64 i)],[rwJ true 89 M,rwJ true 160 B,rwJ true 592 T],616⟩
def QGv(B M A:List Jn)(n:Int):JSt:=⟨140,QMn B M A n,[],616⟩
def QQZ:Ex->List Nat
 | .normal=>[1,4,6,8,9,10,11,12,65,66,67]
 | .exit _=>[1,4,6,8,9,10,11,12]
 | .ret=>[2]
def QKp:Ex->List Nat
 | .normal=>[4,6,10,15,12,107,108,109]
 | .exit _=>[4,6,10,15]
 | .ret=>[2]
noncomputable abbrev wa7(B:List Jn)(M:List Jn)(g:Int)(n:Int)(x:List Lay)(y:List Lay):List AV:=[.ptr 8 0 0,.slz 89 0 M.length cO,.slz 160 0 B.length cO,.slz 216 0 x.length cO,.slz 217 0 y.length cO,vi n,
  vi g,.fn (Fn.func 48) []]
noncomputable abbrev QKS(g:Int)(i:Nat)(n:Int)(x:List Lay)(y:List Lay):List AV:=
  (.nilp::.ptr 140 0 0::List.append (wa7 B M g n x y) ([.slz 160 0 B.length cO,vi (B.length:Int),vi (i64.wrap ((i:Int)+1))]))
abbrev QE1:List CK:=
  (waZ)
noncomputable abbrev QEe(i:Nat):Nat×Blk:=
  (89,.rowz true 67 QE1 M.length λi=>QA.enc (M.getD i (Jn.mk (0:Int) (0:Int) (0:Int) (0:Int))))
noncomputable abbrev QC3(i:Nat):Nat×Blk:=
  (160,.rowz true 67 QE1 B.length λi=>QA.enc (B.getD i (Jn.mk (0:Int) (0:Int) (0:Int) (0:Int))))
noncomputable abbrev QB6(d:Puz)(i:Nat)(x:List Lay)(y:List Lay):List (Nat×Blk):=
  [(8,.cells 0 28 (waf d)),(QEe M i),(QC3 B i),(216,.rowz true 49 kB x.length λi=>
  QA.enc (x.getD i (Lay.mk (0:Int) (0:Int)))),(217,.rowz true 49 kB y.length λi=>QA.enc (y.getD i (Lay.mk (0:Int) (0:Int)))),(0,.frz kE d.ps.n λi=>QA.enc (d.ps.get i))]
theorem QZ8(n g:Int)(i:Nat)(v:Nat->Value):exec (mkF prog VV) (hnd (mkF prog VV) 1) (QI f12 0) (JSt.inst (QBr d B M x y n g i) v) (Q6 [] QQZ) = .br (decide ((i:Int)<(B.length:Int))) (.need (decide ((0:Int)<=(i:Int)/\(i:Int)<(B.length:Int))&&decide (B.length<=B.length)) (.need (decide (i<B.length)) (.need (decide (M.length<=M.length)&&(true&&true)&&decide (M.length<=1000000)) (.br (!inR (Rw.mk M.length λi=>M.getD i (Jn.mk (0:Int) (0:Int) (0:Int) (0:Int))) (B.getD i (Jn.mk (0:Int) (0:Int) (0:Int) (0:Int)))) (.leaf (.tup [.nili,.ptr 140 0 0,.bool true false]) ([])) (.br (decide ((i:Int)>0)) (.need (decide ((0:Int)<=(i:Int)/\i<=B.length-0)) (.need (decide (i<=B.length)&&(true&&true)&&decide (i<=1000000)) (.br (inR (Rw.mk i λi=>B.getD i (Jn.mk (0:Int) (0:Int) (0:Int) (0:Int))) (B.getD i (Jn.mk (0:Int) (0:Int) (0:Int) (0:Int)))) (.leaf (.tup [.nili,.ptr 140 0 0,.bool true false]) ([])) (.leaf (.tup (QKS B M g i n x y)) ((QB6 B M d i x y)))))) (.leaf (.tup (QKS B M g i n x y)) ((QB6 B M d i x y)))))))) (.leaf (.tup (.ptr 0 0 0::.ptr 140 0 0::wa7 B M g n x y)) ((QB6 B M d i x y))):=by kernel_rfl
abbrev QPN(g:Int)(n:Int)(x:List Lay)(y:List Lay):List Prop:=
  [0=0,0=0,M.length=M.length,cO=cO,0=0,B.length=B.length,cO=cO,0=0,x.length=x.length,cO=cO,0=0,y.length =
  y.length,cO=cO,n=n,g=g,Fn.func 48=Fn.func (48:FuncId)]
abbrev wbz(B:List Jn)(M:List Jn):List Prop:=[M.length<=M.length,QB 4 M.length (λi=>QA.enc (M.getD i (Jn.mk (0:Int) (0:Int) (0:Int) (0:Int)))) λi=>QA.enc
  (M.getD i (Jn.mk (0:Int) (0:Int) (0:Int) (0:Int))),B.length<=B.length]
abbrev QLk(d:Puz)(i:Nat)(x:List Lay)(y:List Lay):List Prop:=
  (([d.pK.aK=d.pK.aK]++waD d++([0 =
  0,d.ps.n=d.ps.n,cO=cO]++wbz B M++[QB 4 B.length (λi=>QA.enc (B.getD i (Jn.mk (0:Int) (0:Int) (0:Int) (0:Int)))) fun
  i=>QA.enc (B.getD i (Jn.mk (0:Int) (0:Int) (0:Int) (0:Int))),x.length<=x.length,QB 2 x.length (λi=>QA.enc (x.getD i (Lay.mk (0:Int) (0:Int)))) λi=>
  QA.enc (x.getD i (Lay.mk (0:Int) (0:Int))),y.length<=y.length,QB 2 y.length (λi=>QA.enc (y.getD i (Lay.mk (0:Int) (0:Int)))) λi=>QA.enc (y.getD i
  (Lay.mk (0:Int) (0:Int)))]))++wae d)
theorem QPd(n g:Int)(i i':Nat):QE 8 (List.append (wa7 B M g n x y) ([.slz 160 0 B.length cO,vi (B.length:Int),vi (i64.wrap ((i:Int)+1))])) ((QB6 B M d i x y)) (QBr d B M x y n g i')=(some ([0=0]++(QPN B M g n x y)++[0=0,B.length=B.length,cO=cO,(B.length:Int)=(B.length:Int),i64.wrap ((i:Int)+1)=(i':Int),d.pK.length=d.pK.length]++(QLk B M d i x y))):=by kernel_rfl
theorem QdT(n g:Int)(i:Nat):QE 8 (wa7 B M g n x y) ((QB6 B M d i x y)) (QJd d B M x y n g)=(some ([0=0]++(QPN B M g n x y)++[d.pK.length=d.pK.length]++(QLk B M d i x y))):=by kernel_rfl
theorem Qdc(B M A T:List Jn)(n:Int)(i:Nat)(v:Nat->Value):exec (mkF prog VV) (hnd (mkF prog VV) 1) (QI f12 1) (JSt.inst (Ht B M A T n i) v) (Q6 [] QKp) = .br (decide ((i:Int)<(T.length:Int))) (.need (decide ((0:Int)<=(i:Int)/\(i:Int)<(T.length:Int))&&decide (T.length<=T.length)) (.need (decide (i<T.length)) (.need (decide (B.length<=B.length)&&(true&&true)&&decide (B.length<=1000000)) (.br (inR (Rw.mk B.length λi=>B.getD i (Jn.mk (0:Int) (0:Int) (0:Int) (0:Int))) (T.getD i (Jn.mk (0:Int) (0:Int) (0:Int) (0:Int)))) (.leaf (.tup [.nili,.ptr 140 0 0,.bool true false]) ([])) (.need (decide (M.length<=M.length)&&(true&&true)&&decide (M.length<=1000000)) (.br (!inR (Rw.mk M.length λi=>M.getD i (Jn.mk (0:Int) (0:Int) (0:Int) (0:Int))) (T.getD i (Jn.mk (0:Int) (0:Int) (0:Int) (0:Int)))) (.leaf (.tup [.nili,.ptr 140 0 0,.bool true false]) ([])) (.leaf (.tup [.nilp,.ptr 140 0 0,.slz 89 0 M.length cO,.slz 160 0 B.length cO,vi n,.slz 528 0 A.length cO,.fn (Fn.func 48) [],.slz 592 0 T.length cO,vi (T.length:Int),vi (i64.wrap ((i:Int)+1))]) ([(QEe M i),(QC3 B i),(592,.rowz true 67 QE1 T.length λi=>QA.enc (T.getD i (Jn.mk (0:Int) (0:Int) (0:Int) (0:Int))))])))))))) (.leaf (.tup [.ptr 2 0 0,.ptr 140 0 0,.slz 89 0 M.length cO,.slz 160 0 B.length cO,vi n,.slz 528 0 A.length cO]) ([(QEe M i),(QC3 B i)])):=by kernel_rfl
theorem Qdt(B M A T:List Jn)(n:Int)(i i':Nat):QE 8 [.slz 89 0 M.length cO,.slz 160 0 B.length cO,vi n,.slz 528 0 A.length cO,.fn (Fn.func 48) [],.slz 592 0 T.length cO,vi (T.length:Int),vi (i64.wrap ((i:Int)+1))] ([(QEe M i),(QC3 B i),(592,.rowz true 67 QE1 T.length λi=>QA.enc (T.getD i (Jn.mk (0:Int) (0:Int) (0:Int) (0:Int))))]) (Ht B M A T n i')=(some ([0=0,M.length=M.length,cO=cO,0=0,B.length=B.length,cO=cO,n=n,0=0,A.length=A.length,cO=cO,Fn.func 48=Fn.func (48:FuncId),0=0,T.length=T.length,cO=cO,(T.length:Int)=(T.length:Int),i64.wrap ((i:Int)+1)=(i':Int)]++wbz B M++[QB 4 B.length (λi=>QA.enc (B.getD i (Jn.mk (0:Int) (0:Int) (0:Int) (0:Int)))) λi=>QA.enc (B.getD i (Jn.mk (0:Int) (0:Int) (0:Int) (0:Int))),T.length<=T.length,QB 4 T.length (λi=>QA.enc (T.getD i (Jn.mk (0:Int) (0:Int) (0:Int) (0:Int)))) λi=>QA.enc (T.getD i (Jn.mk (0:Int) (0:Int) (0:Int) (0:Int)))])):=by kernel_rfl
theorem QWQ(B M A:List Jn)(n:Int)(i:Nat):QE 8 [AV.slz (89:Nat) (0:Nat) M.length cO,AV.slz (160:Nat) (0:Nat) B.length cO,vi n,AV.slz (528:Nat) (0:Nat) A.length cO] ([((89:Nat),Blk.rowz true (67:Nat) [CK.int i64,CK.int i64,CK.int i64,CK.int i64] M.length λi=>QA.enc (M.getD i (Jn.mk (0:Int) (0:Int) (0:Int) (0:Int)))),((160:Nat),Blk.rowz true (67:Nat) [CK.int i64,CK.int i64,CK.int i64,CK.int i64] B.length λi=>QA.enc (B.getD i (Jn.mk (0:Int) (0:Int) (0:Int) (0:Int))))]) (QGv B M A n)=( some [0=0,M.length=M.length,cO=cO,0=0,B.length=B.length,cO=cO,n=n,0=0,A.length=A.length,cO=cO]):=by kernel_rfl
theorem QGL(x:Jn):inR ⟨L.length,λi=>L.getD i ⟨0,0,0,0⟩⟩ x=inJ L x:=QSm rfl (λ_ h=>JL h) x
theorem Qes{i:Nat}(hi:i<=L.length)(x:Jn):inR ⟨i,λi=>L.getD i ⟨0,0,0,0⟩⟩ x=inJ (L.take i) x:=by
 have hl:(L.take i).length=i:=by rw[List.length_take];omega
 refine QSm hl.symm (λk h=>?_) x;show L.getD k _=_;rw[JL (by omega),List.getElem_take]
theorem QcC{d:Puz}{B M:List Jn}{x y:List Lay}{n g:Int}(hB:B.length<=1000000)(hM:M.length<=1000000)(h1:∀ i (h:i<B.length),inJ M B[i]=true)(h2:∀ i (h:i<B.length),inJ (B.take i) B[i]=false):JW (λi=>QBr d B M x y n g i) (λi=>i<=B.length) (λi=>B.length-i) (λ_ e J=>e = .exit 0/\J=QJd d B M x y n g) 8 QQZ [] (λ_=>mkF prog VV) (λ_=>hnd (mkF prog VV) 1) (QI f12 0):=by
 refine⟨λi v hk=>?_⟩;have hk:i<=B.length:=hk;have et:=QZ8 d B M x y n g i v;refine Qg et ?_;clear et;refine QF (λb0=>?_) (λb0=>?_);have h:i<B.length:=by have:=qdt b0;omega
 have hw:i64.wrap ((i:Int)+1)=((i+1:Nat):Int):=(w64 (by omega) (by omega)).trans (by omega)
 have e0:B.getD i ⟨0,0,0,0⟩=B[i]:=JL h
 iterate 3 (refine QG ?_ ?_;rotate_left)
 refine QF ?_ ?_<;>intro b1
 .rw[e0,QGL,h1 i h]at b1;cases b1
 refine QF ?_ ?_<;>intro b2
 iterate 2 (refine QG ?_ ?_;rotate_left)
 refine QF ?_ ?_<;>intro b3
 .rw[e0,Qes hk,h2 i h]at b3;cases b3
 refine⟨i+1,h,by show B.length-(i+1)<B.length-i;omega,λ_ _ r=>r,rfl,rfl,_,QPd d B M x y n g i (i+1),?_⟩
 rotate_left
 refine⟨i+1,h,by show B.length-(i+1)<B.length-i;omega,λ_ _ r=>r,rfl,rfl,_,QPd d B M x y n g i (i+1),?_⟩
 rotate_left
 refine⟨_,⟨rfl,rfl⟩,rfl,rfl,_,QdT d B M x y n g i,?_⟩
 rotate_left
 all_goals first|((with_reducible show _=true);(first|rfl|(simp;omega)))|(repeat' first|with_reducible refine QP ?_ ?_|exact tv|with_reducible exact qRr|with_reducible exact hw|exact rfl|refine aI ?_ ?_)
theorem QVM{B M A T:List Jn}{n:Int}(hB:B.length<=1000000)(hM:M.length<=1000000)(hT:T.length<=1000000)(h1:∀ j∈T,inJ B j=false/\inJ M j=true):JW (λi=>Ht B M A T n i) (λi=>i<=T.length) (λi=>T.length-i) (λ_ e J=>e = .exit 2/\J=QGv B M A n) 8 QKp [] (λ_=>mkF prog VV) (λ_=>hnd (mkF prog VV) 1) (QI f12 1):=by
 refine⟨λi v hk=>?_⟩;have hk:i<=T.length:=hk;have et:=Qdc B M A T n i v;refine Qg et ?_;clear et;refine QF (λb0=>?_) (λb0=>?_);have h:i<T.length:=by have:=qdt b0;omega
 have hw:i64.wrap ((i:Int)+1)=((i+1:Nat):Int):=(w64 (by omega) (by omega)).trans (by omega)
 have e0:T.getD i ⟨0,0,0,0⟩=T[i]:=JL h;have q:=h1 _ (List.getElem_mem h)
 iterate 3 (refine QG ?_ ?_;rotate_left)
 refine QF ?_ ?_<;>intro b1
 .rw[e0,QGL,q.1]at b1;cases b1
 refine QG ?_ ?_;rotate_left;refine QF ?_ ?_<;>intro b2
 .rw[e0,QGL,q.2]at b2;cases b2
 refine⟨i+1,h,by show T.length-(i+1)<T.length-i;omega,λ_ _ r=>r,rfl,rfl,_,Qdt B M A T n i (i+1),?_⟩
 rotate_left
 refine⟨_,⟨rfl,rfl⟩,rfl,rfl,_,QWQ B M A n i,?_⟩
 rotate_left
 all_goals first|((with_reducible show _=true);(first|rfl|(simp;omega)))|(repeat' first|with_reducible refine QP ?_ ?_|exact tv|with_reducible exact qRr|with_reducible exact hw|exact rfl|refine aI ?_ ?_)
def mxV:List Jn:=mxF d ⟨x.length,λi=>x.getD i ⟨0,0⟩⟩ x.length
theorem QVf{c:Nat}{w:Int}(h1:1<=w)(h2:w<=1000):((c:Int).tmod w==i64.wrap (w-1))=(((c:Int)+1).tmod w==0):=by
 rw[w64 (n:=w-1) (by omega) (by omega),Bool.eq_iff_iff,beq_iff_eq,beq_iff_eq,Int.tmod_eq_emod_of_nonneg (by omega),Int.tmod_eq_emod_of_nonneg (by omega),<-Int.emod_add_emod]
 have g1:=Int.emod_nonneg (c:Int) (show w≠0 by omega)
 have g2:=Int.emod_lt_of_pos (c:Int) (show 0<w by omega)
 generalize (c:Int) % w=r at g1 g2;constructor
 .intro e;rw[e,show w-1+1=w by omega,Int.emod_self]
 .intro e
  by_cases hr:r+1<w
  .rw[Int.emod_eq_of_lt (by omega) hr]at e;omega
  .omega
theorem Qgc{d:Puz}(hd:KB d){x:List Lay}(hl:x.length<=1000){c:Nat}(hc:c<x.length):XS d ⟨x.length,λi=>x.getD i ⟨0,0⟩⟩ c++ZI d ⟨x.length,λi=>x.getD i ⟨0,0⟩⟩ c=ZM d x c:=by
 have h1:=hd.w1;have h2:=hd.wn;have h3:=hd.n;have w1:i64.wrap ((c:Int)+1)=(c:Int)+1:=w64 (by omega) (by omega)
 have w2:i64.wrap ((c:Int)+d.wide)=(c:Int)+d.wide:=w64 (by omega) (by omega)
 have e1:K7 d x c { key := .int .i64 1,val := .int .i64 (i64.wrap ((c:Int)+1)),born:=0 }=cond (((1:Int)==1&&((i64.wrap ((c:Int)+1)).tmod d.wide==0))||decide (i64.wrap ((c:Int)+1)≥(x.length:Int))) none (some (Kt x c 1 (i64.wrap ((c:Int)+1)))):=rfl
 have e2:K7 d x c { key := .int .i64 2,val := .int .i64 (i64.wrap ((c:Int)+d.wide)),born:=1 }=cond (((2:Int)==1&&((i64.wrap ((c:Int)+d.wide)).tmod d.wide==0))||decide (i64.wrap ((c:Int)+d.wide)≥(x.length:Int))) none (some (Kt x c 2 (i64.wrap ((c:Int)+d.wide)))):=rfl
 unfold ZM XS ZI;simp only[JM];rw[List.filterMap_cons,List.filterMap_cons,List.filterMap_nil,e1,e2,QVf h1 (by omega),w1,w2]
 show cond (((c:Int)+1).tmod d.wide==0) [] (cond (decide ((c:Int)+1≥(x.length:Int))) [] [mjn ⟨x.length,λi=>x.getD i ⟨0,0⟩⟩ c 1 3 ((c:Int)+1)])++cond (decide ((c:Int)+d.wide≥(x.length:Int))) [] [mjn ⟨x.length,λi=>x.getD i ⟨0,0⟩⟩ c 2 0 ((c:Int)+d.wide)]=_;have j1:mjn ⟨x.length,λi=>x.getD i ⟨0,0⟩⟩ c 1 3 ((c:Int)+1)=Kt x c 1 ((c:Int)+1):=rfl;have j2:mjn ⟨x.length,λi=>x.getD i ⟨0,0⟩⟩ c 2 0 ((c:Int)+d.wide)=Kt x c 2 ((c:Int)+d.wide):=rfl;rw[j1,j2];cases ((c:Int)+1).tmod d.wide==0<;>cases decide ((c:Int)+1≥(x.length:Int))<;>cases decide ((c:Int)+d.wide≥(x.length:Int))<;>rfl
theorem QTE{d:Puz}(hd:KB d){x:List Lay}(hl:x.length<=1000):mxV d x=VK d x:=by
 unfold mxV mxF VK;rw[List.flatMap_def,List.flatMap_def];congr 1;exact List.map_congr_left λc hc=>Qgc hd hl (List.mem_range.1 hc)
theorem QNI(a b:List Jn):QB 4 (a++b).length (Q9 (0+a.length) (Q9 0 (λ_ _=>0) λi=>QA.enc (a.getD i (⟨0,0,0,0⟩:Jn))) λi=>QA.enc (b.getD i (⟨0,0,0,0⟩:Jn))) λi=>QA.enc ((a++b).getD i (⟨0,0,0,0⟩:Jn)):=by
 intro i _
 by_cases h:i<a.length
 .have e:(a++b).getD i ⟨0,0,0,0⟩=a.getD i ⟨0,0,0,0⟩:=by rw[List.getD_eq_getElem?_getD,List.getD_eq_getElem?_getD,List.getElem?_append_left h]
  show eqF 4 0 _ (QA.enc ((a++b).getD i (⟨0,0,0,0⟩:Jn)));rw[e];refine⟨?_,?_,?_,?_,trivial⟩<;>(rw[XP,if_pos (by omega),XP,if_neg (Nat.not_lt_zero i),Nat.sub_zero])
 .have e:(a++b).getD i ⟨0,0,0,0⟩=b.getD (i-(0+a.length)) ⟨0,0,0,0⟩:=by rw[List.getD_eq_getElem?_getD,List.getD_eq_getElem?_getD,List.getElem?_append_right (by omega),Nat.zero_add]
  show eqF 4 0 _ (QA.enc ((a++b).getD i (⟨0,0,0,0⟩:Jn)));rw[e];refine⟨?_,?_,?_,?_,trivial⟩<;>(rw[XP,if_neg (by omega)])
theorem QVI:XD a a=true:=by
 unfold XD;have:QU (sjQ a a) a.n 0=none:=QPk λi _ _=>by unfold sjQ;simp
 rw[this];simp
theorem Hw{α:Type}(f:Nat->List α){B:Nat}(h:∀ i,(f i).length<=B):∀ k,((List.range k).flatMap f).length<=k*B
 | 0=>Nat.zero_le _
 | k+1=>by
  have h1:=Hw f h k;have h2:=h k;rw[QZd,List.length_append,Nat.succ_mul];omega
theorem QE0(m:Int):(Ks d m).length<=d.ps.n*(4*(d.ps.n*(4*1))):=by
 refine Hw _ (λp=>Hw _ (λi=>Hw _ (λq=>Hw _ (λj=>?_) 4) _) 4) _;cases isJ d m p i q j<;>simp
