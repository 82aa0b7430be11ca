/- - -/
import Derived.Test.YtbpffdkemeoajaaGreatMpzd
open Go.Proofs.Tryz
open Go.IntKind (i64)
set_option maxRecDepth 100000
namespace Go.Proofs.YtbpffdkemeoajaaGreat
open Go.SX
def W9(m:Int)(l f:List QB):List QB:=match m==1 with
 | true=>l
 | false=>f
def qO(m:Int)(l g:List QB):List QB:=match m==1 with
 | true=>g
 | false=>match m==2 with
  | true=>l
  | false=>g
abbrev TrS:=Int×List QB×List QB
def trY(s:TrS)(l:List QB):TrS×Bool:=((i64.wrap (s.1+1),W9 (i64.wrap (s.1+1)) l s.2.1,qO (i64.wrap (s.1+1)) l s.2.2),!(i64.wrap (s.1+1)==100))
variable {d:Nat}(x:QD)(C:List (List QB))(l:List QB)(has:Int->Bool)(many:Int)(f g:List QB)(has':Int->Bool)(f' g':List QB)(many':Int)
def Zx(ac body:Code)(l:List QB)(has:Int->Bool)(s:TrS):Res TrS->UC
 | .go s' h'=>trU x C ac body l has s.1 s.2.1 s.2.2 h' s'.1 s'.2.1 s'.2.2
 | .stop s' h'=>trV x C ac body l has s.1 s.2.1 s.2.2 h' s'.1 s'.2.1 s'.2.2
abbrev TrK:=Nat×TrS×(Int->Bool)
def XD(d:Nat)(l:List QB)(s:TrS)(h:Int->Bool)(c:QB):Res TrS:=onT x C trY d (l++[c]) s h
noncomputable def jF(P:Program)(x:QD)(C:List (List QB))(ac body:Code)(d:Nat)(cs l:List QB)(t:TrK):Env:=
 mkC P (X7 (kPb cs t.1) (kPb cs t.1) x C (l++[cs.getD t.1 ⟨0,0⟩]) (Zx x C ac body (l++[cs.getD t.1 ⟨0,0⟩]) (Qc (cs.getD t.1 ⟨0,0⟩).cell true t.2.2) t.2.1 (XD x C d l t.2.1 (Qc (cs.getD t.1 ⟨0,0⟩).cell true t.2.2) (cs.getD t.1 ⟨0,0⟩))))
def XX(ac body:Code)(d:Nat)(cs l:List QB)(t:TrK)(e:Ex)(J:JSt):Prop:=match J2 (Ki x l (XD x C d l)) (cs.drop t.1) t.2.1 t.2.2 with
 | .go s h=>e = .exit 0/\J=trE x ac body l h s.1 s.2.1 s.2.2
 | .stop s h=>e = .ret/\J=trF x ac body l h s.1 s.2.1 s.2.2
set_option maxHeartbeats 3200000 in
theorem QYo(ac body:Code)(d:Nat)(cs l:List QB)(hcs:cs.length<=1000)(hl:l.length<=1000):qg (λt:TrK=>trJ x C ac body cs l t.2.2 t.2.1.1 t.2.1.2.1 t.2.1.2.2 t.1) (λt=>t.1<=cs.length) (λt=>cs.length-t.1) (XX x C ac body d cs l) 272 WQ jz (jF prog x C ac body d cs l) (λt=>hnd (jF prog x C ac body d cs l t) 0) (QT f80 0):=by
 refine⟨λt g0 hk=>?_⟩;obtain⟨k,⟨many,f,g⟩,has⟩:=t;have hk:k<=cs.length:=hk;unfold jF;simp only;cases hrec:XD x C d l (many,f,g) (Qc (cs.getD k ⟨0,0⟩).cell true has) (cs.getD k ⟨0,0⟩)with
 | go s' h'=>
  refine Qp (QXY (kPb cs k) (kPb cs k) x C ac body cs l (l++[cs.getD k ⟨0,0⟩]) has (Qc (cs.getD k ⟨0,0⟩).cell true has) many f g k h' s'.1 s'.2.1 s'.2.2 g0) ?_;refine QH ?_ ?_<;>intro h
  .have h:k<cs.length:=by have:=qdt h;omega
   have hw:=KW h hcs;have hpb:kPb cs k=QV:=by unfold kPb;rw[qde h]
   rw[hpb];have step:=HO (f:=Ki x l (XD x C d l)) h (many,f,g) has
   have next:∀{s2:TrS} {h2:Int->Bool},Ki x l (XD x C d l) (many,f,g) has (cs.getD k ⟨0,0⟩) = .go s2 h2->∀ e J,XX x C ac body d cs l (k+1,s2,h2) e J->XX x C ac body d cs l (k,(many,f,g),has) e J:=by
    intro s2 h2 he e J hr;unfold XX at hr ⊢;simp only at hr ⊢;rw[step,he];exact hr
   have one:∀ b,JO x l (cs.getD k ⟨0,0⟩)=b->Ki x l (XD x C d l) (many,f,g) has (cs.getD k ⟨0,0⟩)=match b with
     | true => .go (many,f,g) has
     | false=>match Kn x (l++[cs.getD k ⟨0,0⟩])with
      | false => .go (many,f,g) (Qc (cs.getD k ⟨0,0⟩).cell true (Qc (cs.getD k ⟨0,0⟩).cell true has))
      | true => .go s' (Qc (cs.getD k ⟨0,0⟩).cell true h'):=by
    intro b hb;unfold Ki;rw[hb,hrec];cases b
    .cases Kn x (l++[cs.getD k ⟨0,0⟩])<;>rfl
    .rfl
   refine QF (by simp;omega) (QF (by simp;omega) (Q7 λ_=>?_))
   refine QF rfl (QH (λhf=>?_) (λhf=>QF (by simp;omega) (QF rfl (QF (KP.2 ?_) (QH (λhq=>?_) (λhq=>?_))))))
   .have hf:JO x l (cs.getD k ⟨0,0⟩)=true:=XO.trans hf;refine⟨(k+1,(many,f,g),has),h,by show cs.length-(k+1)<cs.length-k;omega,next (one _ hf),rfl,rfl,_,QMn x C ac body cs l has many f g k (k+1),?_⟩
    repeat' first|with_reducible refine QK ?_ ?_|exact tv|exact K7 _ _ _|exact hw|refine aI ?_ ?_
   .repeat' first|with_reducible refine QK ?_ ?_|exact tv|exact Z0 _ _|exact Zu _ _|exact Zo _ _ _ rfl|refine aI ?_ ?_
   .have hf:JO x l (cs.getD k ⟨0,0⟩)=false:=XO.trans hf;have hq:Kn x (l++[cs.getD k ⟨0,0⟩])=false:=by simpa using hq
    have hp:=G8 l hl;have hp1:i64.wrap (((l.length+1:Nat):Int)-1)=l.length:=(w64 (by omega) (by omega)).trans (by omega)
    have ho:=one _ hf;rw[hq]at ho;refine QF (by simp[isI]) (QF (by rw[hp1];simp) ?_)
    refine⟨(k+1,(many,f,g),Qc (cs.getD k ⟨0,0⟩).cell true (Qc (cs.getD k ⟨0,0⟩).cell true has)),h,by show cs.length-(k+1)<cs.length-k;omega,next ho,rfl,rfl,_,QKD x C ac body cs l has (Qc (cs.getD k ⟨0,0⟩).cell true (Qc (cs.getD k ⟨0,0⟩).cell true has)) many f g k (k+1),?_⟩
    repeat' first|with_reducible refine QK ?_ ?_|exact tv|exact hw|exact hp|exact Nat.le_succ _|exact G4 _ _|exact Hp _ _ _ hl (by simp[toI];rfl) _|refine aI ?_ ?_
   .have hf:JO x l (cs.getD k ⟨0,0⟩)=false:=XO.trans hf;have hq:Kn x (l++[cs.getD k ⟨0,0⟩])=true:=by simpa using hq
    have hp:=QAa l (cs.getD k ⟨0,0⟩) hl
    have hp1:i64.wrap (((l++[cs.getD k ⟨0,0⟩]).length:Int)-1)=l.length:=by
     rw[List.length_append,List.length_singleton];exact(w64 (by omega) (by omega)).trans (by omega)
    have ho:=one _ hf;rw[hq]at ho;refine QF (KP.2 ?_) (QF rfl (QF (by rw[hp1];simp) (QH (λq=>by cases q) (λ_=>?_))))
    .repeat' first|with_reducible refine QK ?_ ?_|exact tv|exact Z0 _ _|exact Zu _ _|exact Zo _ _ _ rfl|exact QA0 _ _ hl rfl _|refine aI ?_ ?_
    refine⟨(k+1,s',Qc (cs.getD k ⟨0,0⟩).cell true h'),h,by show cs.length-(k+1)<cs.length-k;omega,next ho,rfl,rfl,_,QZg x C ac body cs l (l++[cs.getD k ⟨0,0⟩]) k h' (Qc (cs.getD k ⟨0,0⟩).cell true h') s'.1 s'.2.1 s'.2.2 (k+1),?_⟩
    repeat' first|with_reducible refine QK ?_ ?_|exact tv|exact hw|exact hp|exact(by simp:l.length<=(l++[cs.getD k ⟨0,0⟩]).length)|exact G5 _ _|exact Ga _ _ hl rfl _|refine aI ?_ ?_
  .have h:cs.length<=k:=by have:=qdf h;omega
   have he:=Gm (f:=Ki x l (XD x C d l)) h (many,f,g) has;refine⟨trE x ac body l has many f g,by unfold XX;simp only[he,and_self],rfl,rfl,_,QRr x C ac body l has many f g,?_⟩
   repeat' first|with_reducible refine QK ?_ ?_|exact tv|exact K7 _ _ _|refine aI ?_ ?_
 | stop s' h'=>
  refine Qp (QUQ (kPb cs k) (kPb cs k) x C ac body cs l (l++[cs.getD k ⟨0,0⟩]) has (Qc (cs.getD k ⟨0,0⟩).cell true has) many f g k h' s'.1 s'.2.1 s'.2.2 g0) ?_;refine QH ?_ ?_<;>intro h
  .have h:k<cs.length:=by have:=qdt h;omega
   have hw:=KW h hcs;have hpb:kPb cs k=QV:=by unfold kPb;rw[qde h]
   rw[hpb];have step:=HO (f:=Ki x l (XD x C d l)) h (many,f,g) has
   have next:∀{s2:TrS} {h2:Int->Bool},Ki x l (XD x C d l) (many,f,g) has (cs.getD k ⟨0,0⟩) = .go s2 h2->∀ e J,XX x C ac body d cs l (k+1,s2,h2) e J->XX x C ac body d cs l (k,(many,f,g),has) e J:=by
    intro s2 h2 he e J hr;unfold XX at hr ⊢;simp only at hr ⊢;rw[step,he];exact hr
   have one:∀ b,JO x l (cs.getD k ⟨0,0⟩)=b->Ki x l (XD x C d l) (many,f,g) has (cs.getD k ⟨0,0⟩)=match b with
     | true => .go (many,f,g) has
     | false=>match Kn x (l++[cs.getD k ⟨0,0⟩])with
      | false => .go (many,f,g) (Qc (cs.getD k ⟨0,0⟩).cell true (Qc (cs.getD k ⟨0,0⟩).cell true has))
      | true => .stop s' (Qc (cs.getD k ⟨0,0⟩).cell true h'):=by
    intro b hb;unfold Ki;rw[hb,hrec];cases b
    .cases Kn x (l++[cs.getD k ⟨0,0⟩])<;>rfl
    .rfl
   refine QF (by simp;omega) (QF (by simp;omega) (Q7 λ_=>?_))
   refine QF rfl (QH (λhf=>?_) (λhf=>QF (by simp;omega) (QF rfl (QF (KP.2 ?_) (QH (λhq=>?_) (λhq=>?_))))))
   .have hf:JO x l (cs.getD k ⟨0,0⟩)=true:=XO.trans hf;refine⟨(k+1,(many,f,g),has),h,by show cs.length-(k+1)<cs.length-k;omega,next (one _ hf),rfl,rfl,_,QMn x C ac body cs l has many f g k (k+1),?_⟩
    repeat' first|with_reducible refine QK ?_ ?_|exact tv|exact K7 _ _ _|exact hw|refine aI ?_ ?_
   .repeat' first|with_reducible refine QK ?_ ?_|exact tv|exact Z0 _ _|exact Zu _ _|exact Zo _ _ _ rfl|refine aI ?_ ?_
   .have hf:JO x l (cs.getD k ⟨0,0⟩)=false:=XO.trans hf;have hq:Kn x (l++[cs.getD k ⟨0,0⟩])=false:=by simpa using hq
    have hp:=G8 l hl;have hp1:i64.wrap (((l.length+1:Nat):Int)-1)=l.length:=(w64 (by omega) (by omega)).trans (by omega)
    have ho:=one _ hf;rw[hq]at ho;refine QF (by simp[isI]) (QF (by rw[hp1];simp) ?_)
    refine⟨(k+1,(many,f,g),Qc (cs.getD k ⟨0,0⟩).cell true (Qc (cs.getD k ⟨0,0⟩).cell true has)),h,by show cs.length-(k+1)<cs.length-k;omega,next ho,rfl,rfl,_,QKD x C ac body cs l has (Qc (cs.getD k ⟨0,0⟩).cell true (Qc (cs.getD k ⟨0,0⟩).cell true has)) many f g k (k+1),?_⟩
    repeat' first|with_reducible refine QK ?_ ?_|exact tv|exact hw|exact hp|exact Nat.le_succ _|exact G4 _ _|exact Hp _ _ _ hl (by simp[toI];rfl) _|refine aI ?_ ?_
   .have hf:JO x l (cs.getD k ⟨0,0⟩)=false:=XO.trans hf;have hq:Kn x (l++[cs.getD k ⟨0,0⟩])=true:=by simpa using hq
    have hp:=QAa l (cs.getD k ⟨0,0⟩) hl
    have hp1:i64.wrap (((l++[cs.getD k ⟨0,0⟩]).length:Int)-1)=l.length:=by
     rw[List.length_append,List.length_singleton];exact(w64 (by omega) (by omega)).trans (by omega)
    have ho:=one _ hf;rw[hq]at ho;refine QF (KP.2 ?_) (QF rfl (QF (by rw[hp1];simp) (QH (λ_=>?_) (λq=>by cases q))))
    .repeat' first|with_reducible refine QK ?_ ?_|exact tv|exact Z0 _ _|exact Zu _ _|exact Zo _ _ _ rfl|exact QA0 _ _ hl rfl _|refine aI ?_ ?_
    have rel:XX x C ac body d cs l (k,(many,f,g),has) .ret (trF x ac body l (Qc (cs.getD k ⟨0,0⟩).cell true h') s'.1 s'.2.1 s'.2.2):=by
     unfold XX;simp only[step,ho,and_self]
    refine⟨_,rel,rfl,rfl,_,QXy x C ac body cs l (l++[cs.getD k ⟨0,0⟩]) k h' (Qc (cs.getD k ⟨0,0⟩).cell true h') s'.1 s'.2.1 s'.2.2,?_⟩
    repeat' first|with_reducible refine QK ?_ ?_|exact tv|exact hw|exact hp|exact(by simp:l.length<=(l++[cs.getD k ⟨0,0⟩]).length)|exact G5 _ _|exact Ga _ _ hl rfl _|refine aI ?_ ?_
  .have h:cs.length<=k:=by have:=qdf h;omega
   have he:=Gm (f:=Ki x l (XD x C d l)) h (many,f,g) has;refine⟨trE x ac body l has many f g,by unfold XX;simp only[he,and_self],rfl,rfl,_,QRr x C ac body l has many f g,?_⟩
   repeat' first|with_reducible refine QK ?_ ?_|exact tv|exact K7 _ _ _|refine aI ?_ ?_
def WN(pb:List Prop->Bool)(U:UC):Tab:=Qh Qu 43 (Jj pb U)
abbrev trX(P:Program)(J:JSt)(X:List (Prop×Ex×JSt)):Hnd:={ hnd (mkE P Qu) 2 with loop:=λ_=>Q4 272 jz J X }
noncomputable abbrev JU:Nat×Blk:=
  (200,.cells 0 38 [.slz 248 0 l.length cO])
noncomputable abbrev Jg(l:List QB):Nat×Blk:=
  (176,.mpf i64 (vj 0) has λi=>vi (QJ l i))
noncomputable abbrev Vo:Nat×Blk:=
  (161,.lp LoopState.ready none (trT x) (Array.mk [18]) (QP f16 0).1 (QP f16 0).2)
noncomputable abbrev QDP:Nat×Blk:=
  (32,.cells 0 3 [vi many])
noncomputable abbrev VN:Nat×Blk:=
  (16,.cells 0 38 [.slz 256 0 f.length cO])
noncomputable abbrev VI:Nat×Blk:=
  (24,.cells 0 38 [.slz 264 0 g.length cO])
noncomputable abbrev Je:Nat×Blk:=
  (248,.rowz true 80 kB l.length λi=>QA.enc (l.getD i ⟨0,0⟩))
abbrev KK:List CK:=
  [.int .i64,.int .i64,.int .i64,.int .i64,.int .i64,.int .i64,.int .i64,.int .i64,.int .i64,.int .i64,.int .i64,.int .i64,.int .i64,.int .i64,.int .i64,.int .i64,.int
  .i64,.int .i64,.int .i64,.int .i64,.int .i64,.int .i64,.int .i64,.int .i64,.int .i64,.int .i64,.int .i64,.int .i64]
noncomputable abbrev Jb:Nat×Blk:=
  (2,.frz [.int .i64,.int .i64,.int .i64,.int .i64] x.hang.n λi=>QA.enc (x.hang.get i))
noncomputable abbrev Jh:Nat×Blk:=
  (8,.cellsR 0 31 [vi x.d.pK.length,vi x.d.pK.aK,vi x.d.pK.oK,vi x.d.pK.dK.lo,.int false .i64
  x.d.pK.dK.hi,vi x.d.wide,vi x.d.high,.bool false x.d.turn,.slz 0 0 x.d.ps.n cO,.slz 1 0 x.sK.n cO,.slz 2 0 x.hang.n (Cap.of
  0),vi x.lost,vi x.fK])
noncomputable abbrev JY(x:QD):Nat×Blk:=
  (56,.cellsR 0 149 [vi x.d.pK.length,vi x.d.pK.aK,vi x.d.pK.oK,vi x.d.pK.dK.lo,.int false .i64
  x.d.pK.dK.hi,vi x.d.wide,vi x.d.high,.bool false x.d.turn,.slz 0 0 x.d.ps.n cO,.slz 1 0 x.sK.n cO,.slz 2 0 x.hang.n (Cap.of
  0),vi x.lost,vi x.fK,.slz 57 0 C.length cO])
noncomputable abbrev Jc:Nat×Blk:=
  (128,.cellsR 0 88 [.ptr 56 0 0])
noncomputable abbrev VP:Nat×Blk:=
  (256,.rowz true 80 kB f.length λi=>QA.enc (f.getD i ⟨0,0⟩))
noncomputable abbrev VF:Nat×Blk:=
  (264,.rowz true 80 kB g.length λi=>QA.enc (g.getD i ⟨0,0⟩))
noncomputable abbrev JW:Nat×Blk:=
  (57,.frz2 false 38 kB C.length (λi=>(QG C i).length) λi j=>QA.enc ((QG C i).getD j ⟨0,0⟩))
abbrev QNn:List Prop:=
  [0=0,l.length=l.length,cO=cO,l.length<=l.length,QC 2 l.length (λi=>QA.enc (l.getD i ⟨0,0⟩)) λi=>QA.enc (l.getD i ⟨0,0⟩)]
noncomputable abbrev ZG:Nat×Blk:=
  (161,.lp LoopState.done (some (Code.exit 0)) (trT x) (Array.mk [18]) (QP f16 0).1 (QP f16 0).2)
noncomputable abbrev Jz:Nat×Blk:=
  (32,.cells 0 3 [vi (i64.wrap (many+1))])
noncomputable abbrev QE2:Nat×Blk:=
  (16,.cells 0 38 [.slz 584 0 l.length cO])
noncomputable abbrev QIr:Nat×Blk:=
  (584,.rowz true 80 kB l.length λi=>QA.enc (l.getD i ⟨0,0⟩))
noncomputable abbrev QH4:Nat×Blk:=
  (24,.cells 0 38 [.slz 600 0 l.length cO])
noncomputable abbrev QGj:Nat×Blk:=
  (600,.rowz true 80 kB l.length λi=>QA.enc (l.getD i ⟨0,0⟩))
theorem QEm(pb:List Prop->Bool)(x:QD)(C:List (List QB))(l:List QB)(has:Int->Bool)(many:Int)(f g:List QB):(Vm (mkE prog (WN pb (clU l))) (msN prog (WN pb (clU l))) f80 QC5 (jU x C (QP f16 0).1 (QP f16 0).2 l has many f g).hp 272 λv h
  _=>Yz jz v h) = .br ((l.length:Int)==(x.sK.n:Int)) (.need (isI i64 (.int false .i64 (QJ l (-2:Int)))) (.br (decide (i64.wrap ((x.d.ps.n:Int) -
  i64.wrap ((l.length:Int)-toI (.int false .i64 (QJ l (-2:Int)))))>x.lost)) (.leaf (.bool true true) ([(JU l),(Jg has l),(Vo x),(QDP many),(VN f),
  (VI g),(Je l),(0,.frz KK x.d.ps.n λi=>QA.enc (x.d.ps.get i)),(1,.frz KK x.sK.n λi=>QA.enc (x.sK.get i)),(Jb x),(Jh x),(JY C x),Jc,
  (VP f),(VF g),(JW C)])) (.br (i64.wrap (many+1)==1) (.need (pb ((QNn l))) (.br (i64.wrap (many+1)==100) (.leaf (.bool true false) ([(JU l),
  (Jg has l),(ZG x),(Jz many),(QE2 l),(VI g),(Je l),(0,.frz KK x.d.ps.n λi=>QA.enc (x.d.ps.get i)),(1,.frz KK x.sK.n λi=>QA.enc
  (x.sK.get i)),(Jb x),(Jh x),(JY C x),Jc,(QIr l),(VF g),(JW C)])) (.leaf (.bool true true) ([(JU l),(Jg has l),(Vo x),(Jz many),(QE2 l),
  (VI g),(Je l),(0,.frz KK x.d.ps.n λi=>QA.enc (x.d.ps.get i)),(1,.frz KK x.sK.n λi=>QA.enc (x.sK.get i)),(Jb x),(Jh x),(JY C x),Jc,
  (QIr l),(VF g),(JW C)])))) (.br (i64.wrap (many+1)==2) (.need (pb ((QNn l))) (.br (i64.wrap (many+1)==100) (.leaf (.bool true false) ([(JU l),
  (Jg has l),(ZG x),(Jz many),(VN f),(QH4 l),(Je l),(0,.frz KK x.d.ps.n λi=>QA.enc (x.d.ps.get i)),(1,.frz KK x.sK.n λi=>QA.enc
  (x.sK.get i)),(Jb x),(Jh x),(JY C x),Jc,(VP f),(QGj l),(JW C)])) (.leaf (.bool true true) ([(JU l),(Jg has l),(Vo x),(Jz many),(VN f),
  (QH4 l),(Je l),(0,.frz KK x.d.ps.n λi=>QA.enc (x.d.ps.get i)),(1,.frz KK x.sK.n λi=>QA.enc (x.sK.get i)),(Jb x),(Jh x),(JY C x),Jc,
  (VP f),(QGj l),(JW C)])))) (.br (i64.wrap (many+1)==100) (.leaf (.bool true false) ([(JU l),(Jg has l),(ZG x),(Jz many),(VN f),(VI g),(Je
  l),(0,.frz KK x.d.ps.n λi=>QA.enc (x.d.ps.get i)),(1,.frz KK x.sK.n λi=>QA.enc (x.sK.get i)),(Jb x),(Jh x),(JY C x),Jc,(VP f),(VF g),
  (JW C)])) (.leaf (.bool true true) ([(JU l),(Jg has l),(Vo x),(Jz many),(VN f),(VI g),(Je l),(0,.frz KK x.d.ps.n λi=>QA.enc (x.d.ps.get i)),(1,
  .frz KK x.sK.n λi=>QA.enc (x.sK.get i)),(Jb x),(Jh x),(JY C x),Jc,(VP f),(VF g),(JW C)]))))))) (.need (decide ((0:Int)<=(l.length:Int) /\
  (l.length : Int) < (C.length : Int)) && decide (C.length <= C.length)) (.need (decide (l.length < C.length)) (.fail ("a loop")))) := by kernel_rfl
abbrev QCE(l:List QB):List Prop:=
  [true=true,0=0,l.length=l.length,cO=cO,l.length<=l.length,QC 2 l.length (λi=>QA.enc (l.getD i ⟨0,0⟩)) λi=>QA.enc (l.getD i ⟨0,0⟩),
  Ka (.int true .i64 0) (.int true .i64 0) has has (λi=>.int false .i64 (QJ l i)) λi=>.int false .i64 (QJ l i),LoopState.ready=LoopState.ready,(none:Option
  Code)=none,Array.mk [18]=Array.mk [(18:Tmp)],(QP f16 0).1=(QP f16 0).1,(QP f16 0).2=(QP f16 0).2]
abbrev Xw:List Prop:=
  [x.d.pK.length=x.d.pK.length,x.d.pK.aK=x.d.pK.aK,x.d.pK.oK=x.d.pK.oK,x.d.pK.dK.lo=x.d.pK.dK.lo,x.d.pK.dK.hi=x.d.pK.dK.hi,
  x.d.wide=x.d.wide,x.d.high=x.d.high,x.d.turn=x.d.turn,0=0,x.d.ps.n=x.d.ps.n,cO=cO,0=0,x.sK.n=x.sK.n,cO=cO,0=0,x.hang.n =
  x.hang.n,cO=cO,x.lost=x.lost,x.fK=x.fK,0=0]
abbrev Xt:List Prop:=
  [0=0,0=0,0=0,0=0]
abbrev jD:List Prop:=
  [0=0,0=0,0=0,(0:Int)=0]
abbrev vF:List Prop:=
  [0=0,(0:Int)=0,0=0,0=0,(0:Int)=0,(0:Int)=0,false=false,0=0,0=0,Fn.func (79:FuncId)=Fn.func (79:FuncId),0=0,0=0]
theorem QV2 :QI 272 [(.bool true true)] ([(JU l),(Jg has l),(Vo x),(QDP many),(VN f),(VI g),(Je l),(0,.frz KK x.d.ps.n λi=>QA.enc (x.d.ps.get i)),(1,.frz KK x.sK.n λi=>QA.enc (x.sK.get i)),(Jb x),(Jh x),(JY C x),Jc,(VP f),(VF g),(JW C)]) (Kb (trU x C (QP f16 0).1 (QP f16 0).2 l has many f g has many f g))=(some ((QCE has l)++(Xw x)++Xt++jD++Xt++[(0:Int)=0]++(Xw x)++vF++[many=many,0=0,f.length=f.length, cO=cO,f.length<=f.length,QC 2 f.length (λi=>QA.enc (f.getD i ⟨0,0⟩)) λi=>QA.enc (f.getD i ⟨0,0⟩),0=0,g.length=g.length,cO=cO,g.length<=g.length,QC 2 g.length (λi=>QA.enc (g.getD i ⟨0,0⟩)) λi=>QA.enc (g.getD i ⟨0,0⟩)])):=by kernel_rfl
abbrev QIF:List Prop:=
  [g.length=g'.length,cO=cO,g'.length<=g.length,QC 2 g'.length (λi=>QA.enc (g.getD i ⟨0,0⟩)) λi=>QA.enc (g'.getD i ⟨0,0⟩)]
theorem QVn(f' g':List QB):QI 272 [(.bool true true)] ([(JU l),(Jg has l),(Vo x),(Jz many),(QE2 l),(VI g),(Je l),(0,.frz KK x.d.ps.n λi=>QA.enc (x.d.ps.get i)),(1,.frz KK x.sK.n λi=>QA.enc (x.sK.get i)),(Jb x),(Jh x),(JY C x),Jc,(QIr l),(VF g),(JW C)]) (Kb (trU x C (QP f16 0).1 (QP f16 0).2 l has many f g has many' f' g'))=(some ((QCE has l)++(Xw x)++Xt++jD++Xt++[(0:Int)=0]++(Xw x)++vF++[i64.wrap (many+1)=many',0=0,l.length=f'.length,cO=cO,f'.length<=l.length,QC 2 f'.length (λi=>QA.enc (l.getD i ⟨0,0⟩)) λi=>QA.enc (f'.getD i ⟨0,0⟩),0=0]++(QIF g g'))):=by kernel_rfl
abbrev QGx:List Prop:=
  [0=0,f.length=f'.length,cO=cO,f'.length<=f.length,QC 2 f'.length (λi=>QA.enc (f.getD i ⟨0,0⟩)) λi=>QA.enc (f'.getD i ⟨0,0⟩),0=0]
theorem QYt(f' g':List QB):QI 272 [(.bool true true)] ([(JU l),(Jg has l),(Vo x),(Jz many),(VN f),(QH4 l),(Je l),(0,.frz KK x.d.ps.n λi=>QA.enc (x.d.ps.get i)),(1,.frz KK x.sK.n λi=>QA.enc (x.sK.get i)),(Jb x),(Jh x),(JY C x),Jc,(VP f),(QGj l),(JW C)]) (Kb (trU x C (QP f16 0).1 (QP f16 0).2 l has many f g has many' f' g'))=(some ((QCE has l)++(Xw x)++Xt++jD++Xt++[(0:Int)=0]++(Xw x)++vF++[i64.wrap (many+1)=many'] ++ (QGx f f')++[l.length=g'.length,cO=cO,g'.length<=l.length,QC 2 g'.length (λi=>QA.enc (l.getD i ⟨0,0⟩)) λi=>QA.enc (g'.getD i ⟨0,0⟩)])):=by kernel_rfl
abbrev QFl:List Prop:=
  [0=0,l.length=l.length,cO=cO,l.length<=l.length,QC 2 l.length (λi=>QA.enc (l.getD i ⟨0,0⟩)) λi=>QA.enc (l.getD i ⟨0,0⟩)]
abbrev QSC:List Prop:=
  [LoopState.done=LoopState.done,some (Code.exit 0)=some (Code.exit 0),Array.mk [18]=Array.mk [(18:Tmp)],(QP f16 0).1=(QP f16 0).1,(QP f16
  0).2=(QP f16 0).2]
theorem QfK(f' g':List QB):QI 272 [(.bool true false)] ([(JU l),(Jg has l),(ZG x),(Jz many),(VN f),(VI g),(Je l),(0,.frz KK x.d.ps.n λi=>QA.enc (x.d.ps.get i)),(1,.frz KK x.sK.n λi=>QA.enc (x.sK.get i)),(Jb x),(Jh x),(JY C x),Jc,(VP f),(VF g),(JW C)]) (Kb (trV x C (QP f16 0).1 (QP f16 0).2 l has many f g has many' f' g'))=(some ([false=false]++(QFl l)++[Ka (vj 0) (vj 0) has has (λi=>vi (QJ l i)) λi=>vi (QJ l i)]++QSC++(Xw x)++Xt++jD++Xt++[(0:Int)=0]++(Xw x)++vF++[i64.wrap (many+1)=many']++(QGx f f')++(QIF g g'))):=by kernel_rfl
theorem QYK(f' g':List QB):QI 272 [(.bool true true)] ([(JU l),(Jg has l),(Vo x),(Jz many),(VN f),(VI g),(Je l),(0,.frz KK x.d.ps.n λi=>QA.enc (x.d.ps.get i)),(1,.frz KK x.sK.n λi=>QA.enc (x.sK.get i)),(Jb x),(Jh x),(JY C x),Jc,(VP f),(VF g),(JW C)]) (Kb (trU x C (QP f16 0).1 (QP f16 0).2 l has many f g has many' f' g'))=(some ((QCE has l)++(Xw x)++Xt++jD++Xt++[(0:Int)=0]++(Xw x)++vF++[i64.wrap (many+1)=many'] ++ (QGx f f')++(QIF g g'))):=by kernel_rfl
noncomputable abbrev QDy:Nat×Blk:=
  (16,.cells 0 38 [.slz 624 0 (0+l.length) cO])
noncomputable abbrev QEQ(x:QD):Nat×Blk:=
  (624,.rowz true 80 kB (0+l.length) (Qa 0 (λx x_1=>(0:Int)) λi=>QA.enc (l.getD i ⟨0,0⟩)))
noncomputable abbrev QBd:Nat×Blk:=
  (24,.cells 0 38 [.slz 640 0 (0+l.length) cO])
noncomputable abbrev QBF(x:QD):Nat×Blk:=
  (640,.rowz true 80 kB (0+l.length) (Qa 0 (λx x_1=>(0:Int)) λi=>QA.enc (l.getD i ⟨0,0⟩)))
noncomputable abbrev QSr(has':Int->Bool)(l:List QB)(many':Int)(x:QD):List (Nat×Blk):=
  [(200,.cells 0 38 [.slz 280 0 l.length cO]),(176,.mpf i64 (vj 0) has' λi=>vi (QJ l i)),(Vo x),(32,.cells 0 3 [.int false
  .i64 many']),(16,.cells 0 38 [.slz 288 0 f'.length cO]),(24,.cells 0 38 [.slz 296 0 g'.length cO]),(280,.rowz true 80 kB l.length λi=>
  QA.enc (l.getD i ⟨0,0⟩)),(288,.rowz true 80 kB f'.length λi=>QA.enc (f'.getD i ⟨0,0⟩)),(296,.rowz true 80 kB g'.length λi
  => QA.enc (g'.getD i ⟨0,0⟩))]
theorem QYF(cs l:List QB)(has:Int->Bool)(many:Int)(f g:List QB)(has':Int->Bool)(many':Int)(f' g':List QB):(Vm (mkE prog Qu) (trX prog (trJ x C (QP f16 0).1 (QP f16 0).2 cs l has many f g 0) [(True,.exit 0,trE x (QP f16 0).1 (QP f16 0).2 l has' many' f' g')]) f80 QC5 (jU x C (QP f16 0).1 (QP f16 0).2 l has many f g).hp 272 λv h _=>Yz jz v h) = .br ((l.length:Int)==(x.sK.n:Int)) (.need (isI i64 (vi (QJ l (-2:Int)))) (.br (decide (i64.wrap ((x.d.ps.n:Int)-i64.wrap ((l.length:Int)-toI (vi (QJ l (-2:Int)))))>x.lost)) (.leaf (.bool true true) ([(JU l),(Jg has l),(Vo x),(QDP many),(VN f),(VI g),(Je l),(0,.frz KK x.d.ps.n λi=>QA.enc (x.d.ps.get i)),(1,.frz KK x.sK.n λi=>QA.enc (x.sK.get i)),(Jb x),(Jh x),(JY C x),Jc,(VP f),(VF g),(JW C)])) (.br (i64.wrap (many+1)==1) (.need (decide (0<l.length/\l.length<=l.length)) (.need (true&&(decide (l.length<=l.length)&&decide ((0+l.length+(0+l.length) / 4+192)*16<=281474976710656/\0+l.length<=9223372036854775807))) (.br (i64.wrap (many+1)==100) (.leaf (.bool true false) ([(JU l),(Jg has l),(ZG x),(Jz many),(QDy l),(VI g),(Je l),(0,.frz KK x.d.ps.n λi=>QA.enc (x.d.ps.get i)),(1,.frz KK x.sK.n λi=>QA.enc (x.sK.get i)),(Jb x),(Jh x), (JY C x),Jc,(QEQ l x),(VF g),(JW C)])) (.leaf (.bool true true) ([(JU l),(Jg has l),(Vo x),(Jz many),(QDy l),(VI g),(Je l),(0,.frz KK x.d.ps.n λi=>QA.enc (x.d.ps.get i)),(1,.frz KK x.sK.n λi=>QA.enc (x.sK.get i)),(Jb x),(Jh x),(JY C x),Jc,(QEQ l x),(VF g),(JW C)]))))) (.br (i64.wrap (many+1)==2) (.need (decide (0<l.length/\l.length<=l.length)) (.need (true&&(decide (l.length<=l.length)&&decide ((0+l.length+(0+l.length) / 4+192)*16<=281474976710656/\0+l.length<=9223372036854775807))) (.br (i64.wrap (many+1)==100) (.leaf (.bool true false) ([(JU l),(Jg has l),(ZG x), (Jz many),(VN f),(QBd l),(Je l),(0,.frz KK x.d.ps.n λi=>QA.enc (x.d.ps.get i)),(1,.frz KK x.sK.n λi=>QA.enc (x.sK.get i)),(Jb x),(Jh x),(JY C x),Jc,(VP f),(QBF l x),(JW C)])) (.leaf (.bool true true) ([(JU l),(Jg has l),(Vo x),(Jz many),(VN f),(QBd l),(Je l),(0,.frz KK x.d.ps.n λi=>QA.enc (x.d.ps.get i)),(1,.frz KK x.sK.n λi=>QA.enc (x.sK.get i)),(Jb x),(Jh x),(JY C x),Jc,(VP f),(QBF l x),(JW C)]))))) (.br (i64.wrap (many+1)==100) (.leaf (.bool true false) ([(JU l),(Jg has l),(ZG x),(Jz many),(VN f),(VI g),(Je l),(0,.frz KK x.d.ps.n λi=>QA.enc (x.d.ps.get i)),(1,.frz KK x.sK.n λi=>QA.enc (x.sK.get i)),(Jb x),(Jh x),(JY C x),Jc,(VP f),(VF g),(JW C)])) (.leaf (.bool true true) ([(JU l),(Jg has l),(Vo x),(Jz many),(VN f),(VI g),(Je l),(0,.frz KK x.d.ps.n λi=>QA.enc (x.d.ps.get i)),(1,.frz KK x.sK.n λi=>QA.enc (x.sK.get i)),(Jb x),(Jh x),(JY C x),Jc,(VP f),(VF g),(JW C)]))))))) (.need (decide ((0:Int)<=(l.length:Int)/\(l.length:Int)<(C.length:Int))&&decide (C.length<=C.length)) (.need (decide (l.length<C.length)) (.ak (rz 11) (.ak [(QG C l.length).length=cs.length,cO=cO,(↑(QG C l.length).length:Int)=(cs.length:Int),(0:Int)=0,cs.length<=(QG C l.length).length,QC 2 cs.length (λj=>QA.enc ((QG C l.length).getD j ⟨0,0⟩)) λi=>QA.enc (cs.getD i ⟨0,0⟩),0=0,l.length=l.length,cO=cO,l.length<=l.length,QC 2 l.length (λi=>QA.enc (l.getD i ⟨0,0⟩)) λi=>QA.enc (l.getD i ⟨0,0⟩),Ka (vj 0) (vj 0) has has (λi=>vi (QJ l i)) λi=>vi (QJ l i),LoopState.ready=LoopState.ready,(none:Option Code)=none,Array.mk [(18:Tmp)]=Array.mk [(18:Tmp)],(QP f16 0).1=(QP f16 0).1,(QP f16 0).2=(QP f16 0).2] (.ak (xq x) (.ak (rz 8) (.ak [(0:Int)=0,0=0,0=0,0=0,0=0,(0:Int)=0] (.ak (xq x) (.ak [0=0,0=0,(0:Int)=0,0=0,0=0,(0:Int)=0,(0:Int)=0,false=false,0=0,0=0,Fn.func (79:FuncId)=Fn.func (79:FuncId),0=0,0=0,many=many,0=0,f.length=f.length,cO=cO,f.length<=f.length,QC 2 f.length (λi=>QA.enc (f.getD i ⟨0,0⟩)) λi=>QA.enc (f.getD i ⟨0,0⟩),0=0,g.length=g.length,cO=cO,g.length<=g.length,QC 2 g.length (λi=>QA.enc (g.getD i ⟨0,0⟩)) λi=>QA.enc (g.getD i ⟨0,0⟩),Fn.func (80:FuncId)=Fn.func (80:FuncId)] (.ak (rz 12) (.ak (xq x) (.ak (xq x) (.ak [0=0,C.length=C.length,cO=cO,C.length=C.length,Q1 2 C.length (λi=>(QG C i).length) (λi=>(QG C i).length) (λi j=>QA.enc ((QG C i).getD j ⟨0,0⟩)) λi j=>QA.enc ((QG C i).getD j ⟨0,0⟩)] (.ak (xp x) (.asm (True) (.all (λ(g0:Nat->Value)=>.leaf (.bool true true) ((QSr f' g' has' l many' x))))))))))))))))))):=by kernel_rfl
noncomputable abbrev QO1(has':Int->Bool)(l:List QB)(many':Int)(x:QD):List (Nat×Blk):=
  [(200,.cells 0 38 [.slz 280 0 l.length cO]),(176,.mpf i64 (vj 0) has' λi=>vi (QJ l i)),(ZG x),(32,.cells 0 3 [.int false
  .i64 many']),(16,.cells 0 38 [.slz 288 0 f'.length cO]),(24,.cells 0 38 [.slz 296 0 g'.length cO]),(280,.rowz true 80 kB l.length λi=>
  QA.enc (l.getD i ⟨0,0⟩)),(288,.rowz true 80 kB f'.length λi=>QA.enc (f'.getD i ⟨0,0⟩)),(296,.rowz true 80 kB g'.length λi
  => QA.enc (g'.getD i ⟨0,0⟩))]
theorem QXM(cs l:List QB)(has:Int->Bool)(many:Int)(f g:List QB)(has':Int->Bool)(many':Int)(f' g':List QB):(Vm (mkE prog Qu) (trX prog (trJ x C (QP f16 0).1 (QP f16 0).2 cs l has many f g 0) [(True,.ret,trF x (QP f16 0).1 (QP f16 0).2 l has' many' f' g')]) f80 QC5 (jU x C (QP f16 0).1 (QP f16 0).2 l has many f g).hp 272 λv h _=>Yz jz v h) = .br ((l.length:Int)==(x.sK.n:Int)) (.need (isI i64 (vi (QJ l (-2:Int)))) (.br (decide (i64.wrap ((x.d.ps.n:Int)-i64.wrap ((l.length:Int)-toI (vi (QJ l (-2:Int)))))>x.lost)) (.leaf (.bool true true) ([(JU l),(Jg has l),(Vo x),(QDP many),(VN f),(VI g),(Je l),(0,.frz KK x.d.ps.n λi=>QA.enc (x.d.ps.get i)),(1,.frz KK x.sK.n λi=>QA.enc (x.sK.get i)),(Jb x),(Jh x),(JY C x),Jc,(VP f),(VF g),(JW C)])) (.br (i64.wrap (many+1)==1) (.need (decide (0<l.length/\l.length<=l.length)) (.need (true&&(decide (l.length<=l.length)&&decide ((0+l.length+(0+l.length) / 4+192)*16<=281474976710656/\0+l.length<=9223372036854775807))) (.br (i64.wrap (many+1)==100) (.leaf (.bool true false) ([(JU l),(Jg has l),(ZG x),(Jz many),(QDy l),(VI g),(Je l),(0,.frz KK x.d.ps.n λi=>QA.enc (x.d.ps.get i)),(1,.frz KK x.sK.n λi=>QA.enc (x.sK.get i)),(Jb x),(Jh x), (JY C x),Jc,(QEQ l x),(VF g),(JW C)])) (.leaf (.bool true true) ([(JU l),(Jg has l),(Vo x),(Jz many),(QDy l),(VI g),(Je l),(0,.frz KK x.d.ps.n λi=>QA.enc (x.d.ps.get i)),(1,.frz KK x.sK.n λi=>QA.enc (x.sK.get i)),(Jb x),(Jh x),(JY C x),Jc,(QEQ l x),(VF g),(JW C)]))))) (.br (i64.wrap (many+1)==2) (.need (decide (0<l.length/\l.length<=l.length)) (.need (true&&(decide (l.length<=l.length)&&decide ((0+l.length+(0+l.length) / 4+192)*16<=281474976710656/\0+l.length<=9223372036854775807))) (.br (i64.wrap (many+1)==100) (.leaf (.bool true false) ([(JU l),(Jg has l),(ZG x), (Jz many),(VN f),(QBd l),(Je l),(0,.frz KK x.d.ps.n λi=>QA.enc (x.d.ps.get i)),(1,.frz KK x.sK.n λi=>QA.enc (x.sK.get i)),(Jb x),(Jh x),(JY C x),Jc,(VP f),(QBF l x),(JW C)])) (.leaf (.bool true true) ([(JU l),(Jg has l),(Vo x),(Jz many),(VN f),(QBd l),(Je l),(0,.frz KK x.d.ps.n λi=>QA.enc (x.d.ps.get i)),(1,.frz KK x.sK.n λi=>QA.enc (x.sK.get i)),(Jb x),(Jh x),(JY C x),Jc,(VP f),(QBF l x),(JW C)]))))) (.br (i64.wrap (many+1)==100) (.leaf (.bool true false) ([(JU l),(Jg has l),(ZG x),(Jz many),(VN f),(VI g),(Je l),(0,.frz KK x.d.ps.n λi=>QA.enc (x.d.ps.get i)),(1,.frz KK x.sK.n λi=>QA.enc (x.sK.get i)),(Jb x),(Jh x),(JY C x),Jc,(VP f),(VF g),(JW C)])) (.leaf (.bool true true) ([(JU l),(Jg has l),(Vo x),(Jz many),(VN f),(VI g),(Je l),(0,.frz KK x.d.ps.n λi=>QA.enc (x.d.ps.get i)),(1,.frz KK x.sK.n λi=>QA.enc (x.sK.get i)),(Jb x),(Jh x),(JY C x),Jc,(VP f),(VF g),(JW C)]))))))) (.need (decide ((0:Int)<=(l.length:Int)/\(l.length:Int)<(C.length:Int))&&decide (C.length<=C.length)) (.need (decide (l.length<C.length)) (.ak (rz 11) (.ak [(QG C l.length).length=cs.length,cO=cO,(↑(QG C l.length).length:Int)=(cs.length:Int),(0:Int)=0,cs.length<=(QG C l.length).length,QC 2 cs.length (λj=>QA.enc ((QG C l.length).getD j ⟨0,0⟩)) λi=>QA.enc (cs.getD i ⟨0,0⟩),0=0,l.length=l.length,cO=cO,l.length<=l.length,QC 2 l.length (λi=>QA.enc (l.getD i ⟨0,0⟩)) λi=>QA.enc (l.getD i ⟨0,0⟩),Ka (vj 0) (vj 0) has has (λi=>vi (QJ l i)) λi=>vi (QJ l i),LoopState.ready=LoopState.ready,(none:Option Code)=none,Array.mk [(18:Tmp)]=Array.mk [(18:Tmp)],(QP f16 0).1=(QP f16 0).1,(QP f16 0).2=(QP f16 0).2] (.ak (xq x) (.ak (rz 8) (.ak [(0:Int)=0,0=0,0=0,0=0,0=0,(0:Int)=0] (.ak (xq x) (.ak [0=0,0=0,(0:Int)=0,0=0,0=0,(0:Int)=0,(0:Int)=0,false=false,0=0,0=0,Fn.func (79:FuncId)=Fn.func (79:FuncId),0=0,0=0,many=many,0=0,f.length=f.length,cO=cO,f.length<=f.length,QC 2 f.length (λi=>QA.enc (f.getD i ⟨0,0⟩)) λi=>QA.enc (f.getD i ⟨0,0⟩),0=0,g.length=g.length,cO=cO,g.length<=g.length,QC 2 g.length (λi=>QA.enc (g.getD i ⟨0,0⟩)) λi=>QA.enc (g.getD i ⟨0,0⟩),Fn.func (80:FuncId)=Fn.func (80:FuncId)] (.ak (rz 12) (.ak (xq x) (.ak (xq x) (.ak [0=0,C.length=C.length,cO=cO,C.length=C.length,Q1 2 C.length (λi=>(QG C i).length) (λi=>(QG C i).length) (λi j=>QA.enc ((QG C i).getD j ⟨0,0⟩)) λi j=>QA.enc ((QG C i).getD j ⟨0,0⟩)] (.ak (xp x) (.asm (True) (.all (λ(g0:Nat->Value)=>.leaf (.bool false false) ((QO1 f' g' has' l many' x))))))))))))))))))):=by kernel_rfl
abbrev QMu:List Prop:=
  [0=0,f'.length=f'.length,cO=cO,f'.length<=f'.length,QC 2 f'.length (λi=>QA.enc (f'.getD i ⟨0,0⟩)) λi=>QA.enc (f'.getD i ⟨0,0⟩),0=0,
  g'.length=g'.length,cO=cO,g'.length<=g'.length,QC 2 g'.length (λi=>QA.enc (g'.getD i ⟨0,0⟩)) λi=>QA.enc (g'.getD i ⟨0,0⟩)]
theorem QbJ(f' g':List QB):QI 272 [(.bool false false)] ((QO1 f' g' has' l many' x)) (Kb (trV x C (QP f16 0).1 (QP f16 0).2 l has many f g has' many' f' g'))=(some ([false=false] ++ (QFl l)++[Ka (vj 0) (vj 0) has' has' (λi=>vi (QJ l i)) λi=>vi (QJ l i)]++QSC++(Xw x)++Xt ++ jD++Xt++[(0:Int)=0]++(Xw x)++vF++[many'=many']++(QMu f' g'))):=by kernel_rfl
theorem QeJ(f' g':List QB):QI 272 [(.bool true true)] ((QSr f' g' has' l many' x)) (Kb (trU x C (QP f16 0).1 (QP f16 0).2 l has many f g has' many' f' g'))=(some ([true=true] ++ (QFl l)++[Ka (vj 0) (vj 0) has' has' (λi=>vi (QJ l i)) λi=>vi (QJ l i),LoopState.ready=LoopState.ready, (none:Option Code)=none,Array.mk [18]=Array.mk [(18:Tmp)],(QP f16 0).1=(QP f16 0).1,(QP f16 0).2=(QP f16 0).2]++(Xw x) ++ Xt++jD++Xt++[(0:Int)=0]++(Xw x)++vF++[many'=many']++(QMu f' g'))):=by kernel_rfl
noncomputable abbrev Ve:Code:=(QP f16 0).1
noncomputable abbrev VV:Code:=(QP f16 0).2
theorem QRw(ac body:Code)(l:List QB)(has:Int->Bool)(many:Int)(f g:List QB)(has':Int->Bool)(many':Int)(f' g':List QB):(trU x C ac body l has many f g has' many' f' g').Ok:=by
 refine⟨(by decide:240<=272),rfl,rfl,?_,rfl,λ_ _=>rfl,λnid h=>?_⟩
 .intro q hq;simp only[UC.po,trU,trW,rwL,List.mem_cons,List.not_mem_nil,or_false]at hq;rcases hq with rfl|rfl|rfl|rfl|rfl|rfl|rfl|rfl|rfl<;>refine⟨rfl,rfl,rfl,?_⟩<;>first|exact λ_=>rfl|exact λh=>absurd (show 272<240 from h) (by decide)|exact λh=>absurd (show 273<240 from h) (by decide)|exact λh=>absurd (show 274<240 from h) (by decide)
 .have e0:=YU 240 272 0 nid (by decide)
  have e1:=YU 240 272 1 nid (by decide)
  have e2:=YU 240 272 2 nid (by decide)
  have l0:=zZ (N:=240) (M:=272) (i:=0) (by decide) nid
  have l1:=zZ (N:=240) (M:=272) (i:=1) (by decide) nid
  have l2:=zZ (N:=240) (M:=272) (i:=2) (by decide) nid
  simp only[UC.po,trU,trW,rwL,jU,trT,K2,KD.val,List.map_cons,List.map_nil,Blk.mapId,AV.mapId,AV.mapIdL,Nat.add_zero,Nat.zero_add]at e0 e1 e2 l0 l1 l2 ⊢;rw[e0,e1,e2,l0,l1,l2];rfl
theorem QKm(ac body:Code)(l:List QB)(has:Int->Bool)(many:Int)(f g:List QB)(has':Int->Bool)(many':Int)(f' g':List QB):(trV x C ac body l has many f g has' many' f' g').Ok:=by
 refine⟨(by decide:240<=272),rfl,rfl,?_,rfl,λ_ _=>rfl,λnid h=>?_⟩
 .intro q hq;simp only[UC.po,trV,trW,rwL,List.mem_cons,List.not_mem_nil,or_false]at hq;rcases hq with rfl|rfl|rfl|rfl|rfl|rfl|rfl|rfl|rfl<;>refine⟨rfl,rfl,rfl,?_⟩<;>first|exact λ_=>rfl|exact λh=>absurd (show 272<240 from h) (by decide)|exact λh=>absurd (show 273<240 from h) (by decide)|exact λh=>absurd (show 274<240 from h) (by decide)
 .have e0:=YU 240 272 0 nid (by decide)
  have e1:=YU 240 272 1 nid (by decide)
  have e2:=YU 240 272 2 nid (by decide)
  have l0:=zZ (N:=240) (M:=272) (i:=0) (by decide) nid
  have l1:=zZ (N:=240) (M:=272) (i:=1) (by decide) nid
  have l2:=zZ (N:=240) (M:=272) (i:=2) (by decide) nid
  simp only[UC.po,trV,trW,rwL,jU,trT,K2,KD.val,List.map_cons,List.map_nil,Blk.mapId,AV.mapId,AV.mapIdL,Nat.add_zero,Nat.zero_add]at e0 e1 e2 l0 l1 l2 ⊢;rw[e0,e1,e2,l0,l1,l2];rfl
theorem Qay{x:QD}(hx:Kx x)(C:List (List QB))(hpos:0<x.sK.n){l:List QB}(hn:l.length=x.sK.n)(s:TrS)(h:Int->Bool):QO prog 80 (uFC (Zx x C Ve VV l h s (J4 x trY l s h))):=by
 obtain⟨many,f,g⟩:=s;have hs:=hx.s;have hd:=hx.d.n9;have hT:QZ (WN QV (clU l)):=KC.add (QNY l (by omega) (by omega))
 have fin:∀(s':TrS),XU (jv (trU x C Ve VV l h many f g h s'.1 s'.2.1 s'.2.2)) (Js (mkE prog (WN QV (clU l))) (msN prog (WN QV (clU l))) f80 (trU x C Ve VV l h many f g h s'.1 s'.2.1 s'.2.2))->QO prog 80 (uFC (trU x C Ve VV l h many f g h s'.1 s'.2.1 s'.2.2)):=λs' hd=>
  JT (E:=mkE prog (WN QV (clU l))) (QL hT) func80 (by kernel_rfl) (by kernel_rfl) (QRw ..) (λG h1 _=>HK _ hT G h1) ⟨hd⟩
 have finV:∀(s':TrS),XU (jv (trV x C Ve VV l h many f g h s'.1 s'.2.1 s'.2.2)) (Js (mkE prog (WN QV (clU l))) (msN prog (WN QV (clU l))) f80 (trV x C Ve VV l h many f g h s'.1 s'.2.1 s'.2.2))->QO prog 80 (uFC (trV x C Ve VV l h many f g h s'.1 s'.2.1 s'.2.2)):=λs' hd=>
  JT (E:=mkE prog (WN QV (clU l))) (QL hT) func80 (by kernel_rfl) (by kernel_rfl) (QKm ..) (λG h1 _=>HK _ hT G h1) ⟨hd⟩
 have he:=QBo (x:=x) (l:=l) (by omega) (by omega)
 cases hb:YF x l with
 | true=>
  rw[hb]at he;simp only[J4,hb,Zx];refine fin (many,f,g) (Qp (QEm QV x C l h many f g) ?_);refine QH (λ_=>QF rfl (QH (λ_=>?_) (λq=>Bool.noConfusion (show true=false from he.symm.trans q)))) (λq=>by rw[hn]at q;simp at q)
  refine⟨rfl,rfl,_,QV2 x C l h many f g,?_⟩
  repeat' first|with_reducible refine QK ?_ ?_|exact tv|exact K7 _ _ _|refine aI ?_ ?_
 | false=>
  rw[hb]at he;cases hq:(i64.wrap (many+1)==100)with
  | true=>
   have hend:J4 x trY l (many,f,g) h = .stop (i64.wrap (many+1),f,g) h:=by
    have:=eq_of_beq hq;simp only[J4,hb,trY,W9,qO,this];rfl
   rw[hend];simp only[Zx];refine finV (i64.wrap (many+1),f,g) (Qp (QEm QV x C l h many f g) ?_);refine QH (λ_=>QF rfl (QH (λq=>Bool.noConfusion (show true=false from q.symm.trans he)) (λ_=>?_))) (λq=>by rw[hn]at q;simp at q)
   refine QH (λq=>by rw[eq_of_beq hq]at q;cases q) (λ_=>QH (λq=>by rw[eq_of_beq hq]at q;cases q) (λ_=>QH (λ_=>?_) (λq=>by rw[hq]at q;cases q)))
   refine⟨rfl,rfl,_,QfK x C l h many f g (i64.wrap (many+1)) f g,?_⟩
   repeat' first|with_reducible refine QK ?_ ?_|exact tv|exact K7 _ _ _|refine aI ?_ ?_
  | false=>
   have hend:J4 x trY l (many,f,g) h = .go (i64.wrap (many+1),W9 (i64.wrap (many+1)) l f,qO (i64.wrap (many+1)) l g) h:=by
    simp only[J4,hb,trY,hq];rfl
   rw[hend];simp only[Zx];refine fin (i64.wrap (many+1),W9 (i64.wrap (many+1)) l f,qO (i64.wrap (many+1)) l g) (Qp (QEm QV x C l h many f g) ?_);refine QH (λ_=>QF rfl (QH (λq=>Bool.noConfusion (show true=false from q.symm.trans he)) (λ_=>?_))) (λq=>by rw[hn]at q;simp at q)
   refine QH (λq1=>QF (KP.2 ?_) (QH (λq=>by rw[hq]at q;cases q) (λ_=>?_))) (λq1=>QH (λq2=>QF (KP.2 ?_) (QH (λq=>by rw[hq]at q;cases q) (λ_=>?_))) (λq2=>QH (λq=>by rw[hq]at q;cases q) (λ_=>?_)))
   .repeat' first|with_reducible refine QK ?_ ?_|exact tv|refine aI ?_ ?_
   .refine⟨rfl,rfl,_,QVn x C l h many f g _ _ _,?_⟩;simp only[W9,qO,q1]
    repeat' first|with_reducible refine QK ?_ ?_|exact tv|exact K7 _ _ _|exact rfl|refine aI ?_ ?_
   .repeat' first|with_reducible refine QK ?_ ?_|exact tv|refine aI ?_ ?_
   .refine⟨rfl,rfl,_,QYt x C l h many f g _ _ _,?_⟩;simp only[W9,qO,q1,q2]
    repeat' first|with_reducible refine QK ?_ ?_|exact tv|exact K7 _ _ _|exact rfl|refine aI ?_ ?_
   .refine⟨rfl,rfl,_,QYK x C l h many f g _ _ _,?_⟩;simp only[W9,qO,q1,q2]
    repeat' first|with_reducible refine QK ?_ ?_|exact tv|exact K7 _ _ _|exact rfl|refine aI ?_ ?_
theorem Qdh{x:QD}(hx:Kx x){C:List (List QB)}{ac body:Code}{cs l:List QB}(hl:l.length<1000)(hls:∀ c∈l,K8 c)(hcs:∀ c∈cs,K8 c)(IH:∀ c∈cs,∀ s h,QO prog 80 (uFC (Zx x C ac body (l++[c]) h s (XD x C d l s h c))))(t:TrK):(jF prog x C ac body d cs l t).Sound:=by
 unfold jF kPb;split
 .rename_i hk;have hk:=qdt hk;have hm:=zx (z:=(⟨0,0⟩:QB)) hk;refine Ws ((KC.add (QCz x C _ hx (QED (by simp) (by simp;omega) ?_))).add (IH _ hm _ _))
  intro c hc;rcases List.mem_append.1 hc with h|h
  .exact hls c h
  .rw[List.mem_singleton.1 h];exact hcs _ hm
 .exact Ws ((KC.add (Zm (by kernel_rfl) _)).add (Zm (by kernel_rfl) _))
theorem QKG{x:QD}(hx:Kx x){C:List (List QB)}(hC:YH x C){ac body:Code}{l:List QB}(hl:l.length+(d+1)=x.sK.n)(hls:∀ c∈l,K8 c)(IH:∀ c∈QG C l.length,∀ s h,QO prog 80 (uFC (Zx x C ac body (l++[c]) h s (XD x C d l s h c))))(s:TrS)(h:Int->Bool){X:List (Prop×Ex×JSt)}(hX:∀ e J,XX x C ac body d (QG C l.length) l (0,s,h) e J->∃ y∈X,y.1/\y.2.1=e/\y.2.2=J)(G:Ctx)(hrd:G.rd=none)(hG:G.n=272):
  Q8 (mkE prog Qu) G (trX prog (trJ x C ac body (QG C l.length) l h s.1 s.2.1 s.2.2 0) X) (Qi f80):=by
 have hs:=hx.s;refine Kg (body:=QT f80 0) (QL KC) hrd (by kernel_rfl) ?_
 have hE:=λt=>Qdh hx (C:=C) (ac:=ac) (body:=body) (d:=d) (cs:=QG C l.length) (l:=l) (by omega) hls (hC.s _) IH t
 refine vo (E0:=mkE prog Qu) (E:=jF prog x C ac body d (QG C l.length) l) (H:=λt=>hnd (jF prog x C ac body d (QG C l.length) l t) 0) (n0:=272) (s0:=(0,s,h)) (λ_=>rfl) hE (by omega) (λt _=>Qw (hE t) 0 G _ hrd) (λt _=>(by decide:272<=320)) ?_ (QYo x C ac body d (QG C l.length) l (hC.le _) (by omega)) (Nat.zero_le _) hX
 intro t e J hr;unfold XX at hr;split at hr
 .rw[hr.2];exact(by decide:272<=320)
 .rw[hr.2];exact(by decide:272<=320)
theorem QdN{x:QD}(hx:Kx x){C:List (List QB)}(hC:YH x C){l:List QB}(hl:l.length+(d+1)=x.sK.n)(hls:∀ c∈l,K8 c)(IH:∀ c∈QG C l.length,∀ s h,QO prog 80 (uFC (Zx x C Ve VV (l++[c]) h s (XD x C d l s h c))))(s:TrS)(h:Int->Bool):QO prog 80 (uFC (Zx x C Ve VV l h s (onT x C trY (d+1) l s h))):=by
 have hCn:=hC.n;cases he:onT x C trY (d+1) l s h with
 | go s' h'=>
  have hc:J2 (Ki x l (XD x C d l)) (QG C l.length) s h = .go s' h':=he;refine JT (E:=mkE prog Qu) (QL KC) func80 (by kernel_rfl) (by kernel_rfl) (QRw ..) (QKG hx hC hl hls IH s h (X:=[(True,.exit 0,trE x Ve VV l h' s'.1 s'.2.1 s'.2.2)]) ?_) ⟨?_⟩
  .intro e J hr;unfold XX at hr;simp only[List.drop_zero,hc]at hr;exact⟨_,qmc,trivial,hr.1.symm,hr.2.symm⟩
  .refine Qp (QYF x C (QG C l.length) l h s.1 s.2.1 s.2.2 h' s'.1 s'.2.1 s'.2.2) ?_;refine QH (λq=>by simp at q;omega) (λ_=>QF (by simp;omega) (QF (by simp;omega) ?_))
   repeat' first|refine QX (p:=_=_) rfl ?_|refine QX (p:=_<=_) (qlr _) ?_|refine QX (p:=QC _ _ _ _) (qRr) ?_|refine QX (p:=Q1 _ _ _ _ _ _) (QS _ _ _ _) ?_|refine QX (p:=Ka _ _ _ _ _ _) (K7 _ _ _) ?_
   refine KB λ_=>Q7 λg=>⟨rfl,rfl,_,QeJ x C l h s.1 s.2.1 s.2.2 h' s'.1 s'.2.1 s'.2.2,?_⟩
   repeat' first|with_reducible refine QK ?_ ?_|exact tv|exact K7 _ _ _|refine aI ?_ ?_
 | stop s' h'=>
  have hc:J2 (Ki x l (XD x C d l)) (QG C l.length) s h = .stop s' h':=he;refine JT (E:=mkE prog Qu) (QL KC) func80 (by kernel_rfl) (by kernel_rfl) (QKm ..) (QKG hx hC hl hls IH s h (X:=[(True,.ret,trF x Ve VV l h' s'.1 s'.2.1 s'.2.2)]) ?_) ⟨?_⟩
  .intro e J hr;unfold XX at hr;simp only[List.drop_zero,hc]at hr;exact⟨_,qmc,trivial,hr.1.symm,hr.2.symm⟩
  .refine Qp (QXM x C (QG C l.length) l h s.1 s.2.1 s.2.2 h' s'.1 s'.2.1 s'.2.2) ?_;refine QH (λq=>by simp at q;omega) (λ_=>QF (by simp;omega) (QF (by simp;omega) ?_))
   repeat' first|refine QX (p:=_=_) rfl ?_|refine QX (p:=_<=_) (qlr _) ?_|refine QX (p:=QC _ _ _ _) (qRr) ?_|refine QX (p:=Q1 _ _ _ _ _ _) (QS _ _ _ _) ?_|refine QX (p:=Ka _ _ _ _ _ _) (K7 _ _ _) ?_
   refine KB λ_=>Q7 λg=>⟨rfl,rfl,_,QbJ x C l h s.1 s.2.1 s.2.2 h' s'.1 s'.2.1 s'.2.2,?_⟩
   repeat' first|with_reducible refine QK ?_ ?_|exact tv|exact K7 _ _ _|refine aI ?_ ?_
theorem QK6{x:QD}(hx:Kx x){C:List (List QB)}(hC:YH x C)(hpos:0<x.sK.n):∀(d:Nat) (l:List QB) (s:TrS) (h:Int->Bool),l.length+d=x.sK.n->(∀ c∈l,K8 c)->QO prog 80 (uFC (Zx x C Ve VV l h s (onT x C trY d l s h)))
 | 0,l,s,h,hn,_=>Qay hx C hpos (by omega) s h
 | d+1,l,s,h,hn,hl=>QdN hx hC (by omega) hl (λc hc s h=>QK6 hx hC hpos d (l++[c]) s h (by simp;omega) (λy hy=>by
   rcases List.mem_append.1 hy with q|q
   .exact hl y q
   .rw[List.mem_singleton.1 q];exact hC.s _ c hc)) s h
