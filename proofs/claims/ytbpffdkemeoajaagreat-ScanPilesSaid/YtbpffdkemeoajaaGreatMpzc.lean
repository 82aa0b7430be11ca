/- - -/
import Derived.Test.YtbpffdkemeoajaaGreatMpzb
open Go.Proofs.Tryz
open Go.IntKind (i64)
set_option maxRecDepth 100000
namespace Go.Proofs.YtbpffdkemeoajaaGreat
open Go.SX
abbrev TdS:=Int×Int×List QB×Int×Int
def tdY(s:TdS)(l:List QB):TdS×Bool:=((i64.wrap (s.1+1),i64.wrap (s.2.1+1),KQ s.2.1 l s.2.2.1,mvL l (KQ s.2.1 l s.2.2.1) s.2.2.2.1 l.length,tuL l (KQ s.2.1 l s.2.2.1) s.2.2.2.2 l.length),true)
variable (C:List (List QB))(x:QD)(ac body:Code)(cs l:List QB)(has:Int->Bool)(k:Nat)(f:Nat->Int)(many:Int)(has':Int->Bool)(f':Nat->Int)
def XR(s:TdS):Prop:=((s.2.1==0)=false->s.2.2.1.length=x.sK.n)
theorem Qfa{x:QD}{s:TdS}{l:List QB}(hs:XR x s)(hn:l.length=x.sK.n):XR x (tdY s l).1:=by
 intro _;show(KQ s.2.1 l s.2.2.1).length=x.sK.n;unfold KQ;split
 .exact hn
 .rename_i q;exact hs q
def WG(C:List (List QB))(ac body:Code)(l:List QB)(has:Int->Bool)(s:TdS):Res TdS->UC
 | .go s' h'=>tdU x C ac body l has s.1 s.2.1 s.2.2.1 s.2.2.2.1 s.2.2.2.2 h' s'.1 s'.2.1 s'.2.2.1 s'.2.2.2.1 s'.2.2.2.2
 | .stop s' h'=>tdU x C ac body l has s.1 s.2.1 s.2.2.1 s.2.2.2.1 s.2.2.2.2 h' s'.1 s'.2.1 s'.2.2.1 s'.2.2.2.1 s'.2.2.2.2
abbrev TdK:=Nat×TdS×(Int->Bool)
open Classical in
noncomputable def jk(s:TdS):List Prop->Bool:=if k<cs.length/\XR x s then QV else λ_=>false
def Y0(C:List (List QB))(d:Nat)(l:List QB)(s:TdS)(h:Int->Bool)(c:QB):Res TdS:=onT x C tdY d (l++[c]) s h
noncomputable def jw(P:Program)(x:QD)(C:List (List QB))(ac body:Code)(d:Nat)(cs l:List QB)(t:TdK):Env:=
 mkC P (X7 (jk x cs t.1 t.2.1) (jk x cs t.1 t.2.1) x C (l++[cs.getD t.1 ⟨0,0⟩]) (WG x C ac body (l++[cs.getD t.1 ⟨0,0⟩]) (Qc (cs.getD t.1 ⟨0,0⟩).cell true t.2.2) t.2.1 (Y0 x C d l t.2.1 (Qc (cs.getD t.1 ⟨0,0⟩).cell true t.2.2) (cs.getD t.1 ⟨0,0⟩))))
def qm(C:List (List QB))(ac body:Code)(d:Nat)(cs l:List QB)(t:TdK)(e:Ex)(J:JSt):Prop:=match J2 (Ki x l (Y0 x C d l)) (cs.drop t.1) t.2.1 t.2.2 with
 | .go s h=>e = .exit 0/\J=tdE ac body l h s.1 s.2.1 s.2.2.1 s.2.2.2.1 s.2.2.2.2
 | .stop _ _=>False
set_option maxHeartbeats 1600000 in
theorem QTR(C:List (List QB))(ac body:Code)(d:Nat)(cs l:List QB)(hcs:cs.length<=1000)(hl:l.length<=1000)(hn:l.length+1+d=x.sK.n):qg (λt:TdK=>tdJ x C ac body cs l t.2.2 t.2.1.1 t.2.1.2.1 t.2.1.2.2.1 t.2.1.2.2.2.1 t.2.1.2.2.2.2 t.1) (λt=>t.1<=cs.length/\XR x t.2.1) (λt=>cs.length-t.1) (qm x C ac body d cs l) 360 WQ QAL (jw prog x C ac body d cs l) (λt=>hnd (jw prog x C ac body d cs l t) 0) (QT f80 0):=by
 refine⟨λt g hk=>?_⟩;obtain⟨k,⟨many,n,f,moved,turned⟩,has⟩:=t;obtain⟨hk,hgd⟩:=hk;have hk:k<=cs.length:=hk;have hgd:XR x (many,n,f,moved,turned):=hgd;obtain⟨s',h',hrec⟩:=Z8 (C:=C) (x:=x) (Y:=tdY) (λ_ _=>rfl) d (l++[cs.getD k ⟨0,0⟩]) (many,n,f,moved,turned) (Qc (cs.getD k ⟨0,0⟩).cell true has);have hgd':XR x s':=QBI (G:=XR x) (λs l hs hn=>Qfa hs hn) d _ _ _ (by simp;omega) hgd hrec
 unfold jw;simp only;have hrec:Y0 x C d l (many,n,f,moved,turned) (Qc (cs.getD k ⟨0,0⟩).cell true has) (cs.getD k ⟨0,0⟩) = .go s' h':=hrec;rw[hrec];refine Qp (QcB (jk x cs k (many,n,f,moved,turned)) (jk x cs k (many,n,f,moved,turned)) x C ac body cs l (l++[cs.getD k ⟨0,0⟩]) has (Qc (cs.getD k ⟨0,0⟩).cell true has) many n f moved turned k h' s'.1 s'.2.1 s'.2.2.1 s'.2.2.2.1 s'.2.2.2.2 g) ?_;refine QH ?_ ?_<;>intro h
 .have h:k<cs.length:=by have:=qdt h;omega
  have hw:=KW h hcs;have hpb:jk x cs k (many,n,f,moved,turned)=QV:=by unfold jk;rw[if_pos ⟨h,hgd⟩]
  rw[hpb];have step:=HO (f:=Ki x l (Y0 x C d l)) h (many,n,f,moved,turned) has
  have next:∀{s2:TdS} {h2:Int->Bool},Ki x l (Y0 x C d l) (many,n,f,moved,turned) has (cs.getD k ⟨0,0⟩) = .go s2 h2->∀ e J,qm x C ac body d cs l (k+1,s2,h2) e J->qm x C ac body d cs l (k,(many,n,f,moved,turned),has) e J:=by
   intro s2 h2 he e J hr;unfold qm at hr ⊢;simp only at hr ⊢;rw[step,he];exact hr
  have one:∀ b,JO x l (cs.getD k ⟨0,0⟩)=b->Ki x l (Y0 x C d l) (many,n,f,moved,turned) has (cs.getD k ⟨0,0⟩)=match b with
    | true => .go (many,n,f,moved,turned) has
    | false=>match Kn x (l++[cs.getD k ⟨0,0⟩])with
     | false => .go (many,n,f,moved,turned) (Qc (cs.getD k ⟨0,0⟩).cell true (Qc (cs.getD k ⟨0,0⟩).cell true has))
     | true => .go s' (Qc (cs.getD k ⟨0,0⟩).cell true h'):=by
   intro b hb;unfold Ki;rw[hb,hrec];cases b
   .cases Kn x (l++[cs.getD k ⟨0,0⟩])<;>rfl
   .rfl
  refine QF (by simp;omega) (QF (by simp;omega) (Q7 λ_=>?_))
  refine QF rfl (QH (λhf=>?_) (λhf=>QF (by simp;omega) (QF rfl (QF (KP.2 ?_) (QH (λhq=>?_) (λhq=>?_))))))
  .have hf:JO x l (cs.getD k ⟨0,0⟩)=true:=XO.trans hf;refine⟨(k+1,(many,n,f,moved,turned),has),⟨h,hgd⟩,by show cs.length-(k+1)<cs.length-k;omega,next (one _ hf),rfl,rfl,_,Qc2 x C ac body cs l has many n f moved turned k (k+1),?_⟩
   repeat' first|with_reducible refine QK ?_ ?_|exact tv|exact K7 _ _ _|exact hw|refine aI ?_ ?_
  .repeat' first|with_reducible refine QK ?_ ?_|exact tv|exact Z0 _ _|exact Zu _ _|exact Zo _ _ _ rfl|refine aI ?_ ?_
  .have hf:JO x l (cs.getD k ⟨0,0⟩)=false:=XO.trans hf;have hq:Kn x (l++[cs.getD k ⟨0,0⟩])=false:=by simpa using hq
   have hp:=G8 l hl;have hp1:i64.wrap (((l.length+1:Nat):Int)-1)=l.length:=(w64 (by omega) (by omega)).trans (by omega)
   have ho:=one _ hf;rw[hq]at ho;refine QF (by simp[isI]) (QF (by rw[hp1];simp) ?_)
   refine⟨(k+1,(many,n,f,moved,turned),Qc (cs.getD k ⟨0,0⟩).cell true (Qc (cs.getD k ⟨0,0⟩).cell true has)),⟨h,hgd⟩,by show cs.length-(k+1)<cs.length-k;omega,next ho,rfl,rfl,_,Qds x C ac body cs l has (Qc (cs.getD k ⟨0,0⟩).cell true (Qc (cs.getD k ⟨0,0⟩).cell true has)) many n f moved turned k (k+1),?_⟩
   repeat' first|with_reducible refine QK ?_ ?_|exact tv|exact hw|exact hp|exact Nat.le_succ _|exact G4 _ _|exact Hp _ _ _ hl (by simp[toI];rfl) _|refine aI ?_ ?_
  .have hf:JO x l (cs.getD k ⟨0,0⟩)=false:=XO.trans hf;have hq:Kn x (l++[cs.getD k ⟨0,0⟩])=true:=by simpa using hq
   have hp:=QAa l (cs.getD k ⟨0,0⟩) hl
   have hp1:i64.wrap (((l++[cs.getD k ⟨0,0⟩]).length:Int)-1)=l.length:=by
    rw[List.length_append,List.length_singleton];exact(w64 (by omega) (by omega)).trans (by omega)
   have ho:=one _ hf;rw[hq]at ho;refine QF (KP.2 ?_) (QF rfl (QF (by rw[hp1];simp) (QH (λq=>by cases q) (λ_=>?_))))
   .repeat' first|with_reducible refine QK ?_ ?_|exact tv|exact Z0 _ _|exact Zu _ _|exact Zo _ _ _ rfl|exact QA0 _ _ hl rfl _|refine aI ?_ ?_
   refine⟨(k+1,s',Qc (cs.getD k ⟨0,0⟩).cell true h'),⟨h,hgd'⟩,by show cs.length-(k+1)<cs.length-k;omega,next ho,rfl,rfl,_,Qao x C ac body cs l (l++[cs.getD k ⟨0,0⟩]) k h' (Qc (cs.getD k ⟨0,0⟩).cell true h') s'.1 s'.2.1 s'.2.2.1 s'.2.2.2.1 s'.2.2.2.2 (k+1),?_⟩
   repeat' first|with_reducible refine QK ?_ ?_|exact tv|exact hw|exact hp|exact(by simp:l.length<=(l++[cs.getD k ⟨0,0⟩]).length)|exact G5 _ _|exact Ga _ _ hl rfl _|refine aI ?_ ?_
 .have h:cs.length<=k:=by have:=qdf h;omega
  have he:=Gm (f:=Ki x l (Y0 x C d l)) h (many,n,f,moved,turned) has;refine⟨tdE ac body l has many n f moved turned,by unfold qm;simp only[he,and_self],rfl,rfl,_,QVW x C ac body l has many n f moved turned,?_⟩
  repeat' first|with_reducible refine QK ?_ ?_|exact tv|exact K7 _ _ _|refine aI ?_ ?_
def zr(pb:List Prop->Bool)(U:UC):Tab:=Qh Qu 42 (Jj pb U)
abbrev tdX(P:Program)(J:JSt)(X:List (Prop×Ex×JSt)):Hnd:={ hnd (mkE P Qu) 2 with loop:=λ_=>Q4 360 QAL J X }
noncomputable abbrev QHG:Nat×Blk:=
  (257,.lp LoopState.ready none tdT (Array.mk [12]) (QP f41 0).1 (QP f41 0).2)
noncomputable abbrev QJ2:Nat×Blk:=
  (40,.cellsR 0 149 [vi x.d.pK.length,vi x.d.pK.aK,vi x.d.pK.oK,vi x.d.pK.dK.lo,.int false .i64
  x.d.pK.dK.hi,vi x.d.wide,vi x.d.high,.bool false x.d.turn,.slz 0 0 x.d.ps.n cO,.slz 1 0 x.sK.n cO,.slz 2 0 x.hang.n (Cap.of
  0),vi x.lost,vi x.fK,.slz 41 0 C.length cO])
noncomputable abbrev QNf:Nat×Blk:=
  (176,.cellsR 0 105 [.fn (Fn.func 42) [.ptr 120 0 0,.ptr 112 0 0,.ptr 104 0 0]])
abbrev QDz:List CK:=
  [.int .i64,.int .i64,.int .i64,.int .i64,.int .i64,.int .i64,.int .i64,.int .i64,.int .i64,.int .i64,.int .i64,.int .i64,.int .i64,.int .i64,.int .i64,.int .i64,.int
  .i64,.int .i64,.int .i64,.int .i64,.int .i64,.int .i64,.int .i64,.int .i64,.int .i64,.int .i64,.int .i64,.int .i64]
noncomputable abbrev QQH:Nat×Blk:=
  (41,.frz2 false 38 kB C.length (λi=>(QG C i).length) λi j=>QA.enc ((QG C i).getD j ⟨0,0⟩))
noncomputable abbrev QHT(f:List QB)(has:Int->Bool)(l:List QB)(many:Int)(moved:Int)(n:Int)(turned:Int)(x:QD):List (Nat×Blk):=
  [(296,.cells 0 38 [.slz 344 0 l.length cO]),(272,.mpf i64 (vj 0) has λi=>vi (QJ l i)),QHG,(200,.cells 0 3 [.int false .i64
  many]),(168,.cells 0 3 [vi n]),(120,.cells 0 38 [.slz 352 0 f.length cO]),(112,.cells 0 91 [vi moved]),(104,.cells 0 91 [.int false .i64
  turned]),(344,.rowz true 80 kB l.length λi=>QA.enc (l.getD i ⟨0,0⟩)),(QJ2 C x),QNf,(224,.cellsR 0 88 [.ptr 40 0 0]),(352,.rowz true 80 [.int
  .i64,.int .i64] f.length λi=>QA.enc (f.getD i ⟨0,0⟩)),(0,.frz QDz x.d.ps.n λi=>QA.enc (x.d.ps.get i)),(1,.frz QDz x.sK.n λi=>QA.enc (x.sK.get i)),
  (2,.frz [.int .i64,.int .i64,.int .i64,.int .i64] x.hang.n λi=>QA.enc (x.hang.get i)),(QQH C)]
noncomputable abbrev QNS(f2:List QB)(has:Int->Bool)(l:List QB)(m2:Int)(many:Int)(n:Int)(t2:Int)(x:QD):List (Nat×Blk):=
  [(296,.cells 0 38 [.slz 344 0 l.length cO]),(272,.mpf i64 (vj 0) has λi=>vi (QJ l i)),QHG,(200,.cells 0 3 [.int false .i64
  (i64.wrap (many+1))]),(168,.cells 0 3 [vi (i64.wrap (n+1))]),(120,.cells 0 38 [.slz 664 0 f2.length cO]),(112,.cells 0 91 [.int false
  .i64 m2]),(104,.cells 0 91 [vi t2]),(344,.rowz true 80 kB l.length λi=>QA.enc (l.getD i ⟨0,0⟩)),(QJ2 C x),QNf,(224,.cellsR 0 88
  [.ptr 40 0 0]),(664,.rowz true 80 kB f2.length λi=>QA.enc (f2.getD i ⟨0,0⟩)),(0,.frz QDz x.d.ps.n λi=>QA.enc (x.d.ps.get i)),(1,.frz QDz
  x.sK.n λi=>QA.enc (x.sK.get i)),(2,.frz [.int .i64,.int .i64,.int .i64,.int .i64] x.hang.n λi=>QA.enc (x.hang.get i)),(QQH C)]
theorem QPC(pb:List Prop->Bool)(x:QD)(C:List (List QB))(l:List QB)(has:Int->Bool)(many n:Int)(f:List QB)(moved turned:Int)(f2:List QB)(m2 t2:Int):(Vm (mkE prog (zr pb (tmU l f n moved turned f2 m2 t2))) (msN prog (zr pb (tmU l f n moved turned f2 m2 t2))) f80 QIm (QCw x C (QP f41 0).1
  (QP f41 0).2 l has many n f moved turned).hp 360 λv h _=>Yz QAL v h) = .br ((l.length:Int)==(x.sK.n:Int)) (.need (isI i64 (.int false .i64 (QJ l
  (-2:Int)))) (.br (decide (i64.wrap ((x.d.ps.n:Int)-i64.wrap ((l.length:Int)-toI (.int false .i64 (QJ l (-2:Int)))))>x.lost)) (.leaf (.bool true true)
  ((QHT C f has l many moved n turned x))) (.need (pb ([n=n,0=0,l.length=l.length,Cap.of 0=Cap.of 0,0=0,0=0,0=0,0=0,0=0,0=0,l.length<=l.length,QC
  2 l.length (λi=>QA.enc (l.getD i ⟨0,0⟩)) λi=>QA.enc (l.getD i ⟨0,0⟩),0=0,f.length=f.length,Cap.of 0=Cap.of 0,f.length<=f.length,QC 2 f.length (λi
  => QA.enc (f.getD i ⟨0,0⟩)) λi=>QA.enc (f.getD i ⟨0,0⟩),moved=moved,turned=turned])) (.leaf (.bool true true) ((QNS C f2 has l m2 many n t2 x)))))) (.need (decide
  ((0 : Int) <= (l.length : Int) /\ (l.length : Int) < (C.length : Int)) && decide (C.length <= C.length)) (.need (decide (l.length < C.length)) (.fail ("a loop")))) := by kernel_rfl
abbrev QQI(l:List QB):List Prop:=
  [true=true,0=0,l.length=l.length,cO=cO,l.length<=l.length,QC 2 l.length (λi=>QA.enc (l.getD i ⟨0,0⟩)) λi=>QA.enc (l.getD i ⟨0,0⟩),
  Ka (.int true .i64 0) (.int true .i64 0) has has (λi=>.int false .i64 (QJ l i)) λi=>.int false .i64 (QJ l i),LoopState.ready=LoopState.ready,(none:Option
  Code)=none,Array.mk [12]=Array.mk [(12:Tmp)],(QP f41 0).1=(QP f41 0).1,(QP f41 0).2=(QP f41 0).2,0=0,0=0,(0:Int)=0,
  Fn.func (42:FuncId)=Fn.func (42:FuncId)]
abbrev Wb:List Prop:=
  [0=0,0=0,0=0,0=0]
theorem Qa9(C:List (List QB))(l:List QB)(has:Int->Bool)(many n:Int)(f:List QB)(moved turned:Int):QI 360 [(.bool true true)] ((QHT C f has l many moved n turned x)) (Kb (tdU x C (QP f41 0).1 (QP f41 0).2 l has many n f moved turned has many n f moved turned))=(some ((QQI has l)++Wb++Wb++[0=0,0=0,(0:Int)=0,false=false]++Wb++[Fn.func (79:FuncId)=Fn.func (79:FuncId),0=0,0=0,many=many, n=n,0=0,f.length=f.length,cO=cO,f.length<=f.length,QC 2 f.length (λi=>QA.enc (f.getD i ⟨0,0⟩)) λi=>QA.enc (f.getD i ⟨0,0⟩),moved=moved,turned=turned])):=by kernel_rfl
theorem QY4(C:List (List QB))(l:List QB)(has:Int->Bool)(many n:Int)(f:List QB)(moved turned:Int)(f2:List QB)(m2 t2:Int)(many' n':Int)(f':List QB)(moved' turned':Int):QI 360 [(.bool true true)] ((QNS C f2 has l m2 many n t2 x)) (Kb (tdU x C (QP f41 0).1 (QP f41 0).2 l has many n f moved turned has many' n' f' moved' turned'))=(some ((QQI has l)++Wb++Wb++[0=0,0=0,(0:Int)=0,false=false]++Wb++[Fn.func (79:FuncId)=Fn.func (79:FuncId),0=0,0=0, i64.wrap (many+1)=many',i64.wrap (n+1)=n',0=0,f2.length=f'.length,cO=cO,f'.length<=f2.length,QC 2 f'.length (λi=>QA.enc (f2.getD i ⟨0,0⟩)) λi=>QA.enc (f'.getD i ⟨0,0⟩),m2=moved',t2=turned'])):=by kernel_rfl
noncomputable abbrev QSU(f':List QB)(has':Int->Bool)(l:List QB)(many':Int)(moved':Int)(n':Int)(turned':Int):List (Nat×Blk):=
  [(296,.cells 0 38 [.slz 368 0 l.length cO]),(272,.mpf i64 (vj 0) has' λi=>vi (QJ l i)),QHG,(200,.cells 0 3 [.int false .i64
  many']),(168,.cells 0 3 [vi n']),(120,.cells 0 38 [.slz 376 0 f'.length cO]),(112,.cells 0 91 [vi moved']),(104,.cells 0 91 [.int false
  .i64 turned']),(368,.rowz true 80 kB l.length λi=>QA.enc (l.getD i ⟨0,0⟩)),(376,.rowz true 80 kB f'.length λi=>QA.enc
  (f'.getD i ⟨0,0⟩))]
theorem QTO(C:List (List QB))(cs l:List QB)(has:Int->Bool)(many n:Int)(f:List QB)(moved turned:Int)(has':Int->Bool)(many' n':Int)(f':List QB)(moved' turned':Int):(Vm (mkE prog Qu) (tdX prog (tdJ x C (QP f41 0).1 (QP f41 0).2 cs l has many n f moved turned 0) [(True,.exit 0,tdE (QP f41 0).1
  (QP f41 0).2 l has' many' n' f' moved' turned')]) f80 QIm (QCw x C (QP f41 0).1 (QP f41 0).2 l has many n f moved turned).hp 360 λv h _=>
  Yz QAL v h) = .br ((l.length:Int)==(x.sK.n:Int)) (.need (isI i64 (.int false .i64 (QJ l (-2:Int)))) (.br (decide (i64.wrap ((x.d.ps.n:Int) -
  i64.wrap ((l.length:Int)-toI (.int false .i64 (QJ l (-2:Int)))))>x.lost)) (.leaf (.bool true true) ((QHT C f has l many moved n turned x))) (.br (n==0) (.fail
  ("a call without a contract")) (.fail ("a loop"))))) (.need (decide ((0 : Int) <= (l.length : Int) /\ (l.length : Int) < (C.length : Int)) && decide (C.length <= C.length)) (.need
  (decide (l.length<C.length)) (.ask (0=0) (.ask (0=0) (.ask (0=0) (.ask (0=0) (.ask (0=0) (.ask (0=0) (.ask (0=0) (.ask (0=0) (.ask (0=0) (.ask (0=0) (.ask (0 =
  0) (.ask ((QG C l.length).length=cs.length) (.ask (Cap.of 0=Cap.of 0) (.ask ((↑(QG C l.length).length:Int)=(cs.length:Int)) (.ask ((0:Int)=0) (.ask (cs.length <=
  (QG C l.length).length) (.ask (QC 2 cs.length (λj=>QA.enc ((QG C l.length).getD j ⟨0,0⟩)) λi=>QA.enc (cs.getD i ⟨0,0⟩)) (.ask (0=0) (.ask (l.length =
  l.length) (.ask (Cap.of 0=Cap.of 0) (.ask (l.length<=l.length) (.ask (QC 2 l.length (λi=>QA.enc (l.getD i ⟨0,0⟩)) λi=>QA.enc (l.getD i ⟨0,0⟩)) (.ask (Ka
  (.int true .i64 0) (.int true .i64 0) has has (λi=>.int false .i64 (QJ l i)) λi=>.int false .i64 (QJ l i)) (.ask (LoopState.ready=LoopState.ready) (.ask ((none :
  Option Code)=none) (.ask (Array.mk [(12:Tmp)]=Array.mk [(12:Tmp)]) (.ask ((QP f41 0).1=(QP f41 0).1) (.ask ((QP f41 0).2=(QP f41
  0).2) (.ask (0=0) (.ask (0=0) (.ask ((0:Int)=0) (.ask (Fn.func (42:FuncId)=Fn.func (42:FuncId)) (.ask (0=0) (.ask (0=0) (.ask (0=0) (.ask (0=0) (.ask (0=0)
  (.ak [0=0,0=0,0=0,0=0,0=0,(0:Int)=0,false=false,0=0,0=0,0=0,0=0] (.ask
  (Fn.func (79:FuncId)=Fn.func (79:FuncId)) (.ask (0=0) (.ask (0=0) (.ask (many=many) (.ask (n=n) (.ask (0=0) (.ask (f.length=f.length) (.ask (Cap.of 0=Cap.of 0)
  (.ak [f.length<=f.length,QC 2 f.length (λi=>QA.enc (f.getD i ⟨0,0⟩)) λi=>QA.enc (f.getD i ⟨0,0⟩),moved=moved,turned=turned] (.ask
  (Fn.func (80:FuncId)=Fn.func (80:FuncId)) (.ak (rz 9) (.ask
  (0=0) (.ak [0=0,0=0,Fn.func (42:FuncId)=Fn.func (42:FuncId),0=0,0=0,0=0,0=0,0=0,0=0] (.ask
  (x.d.pK.length=x.d.pK.length) (.ak [x.d.pK.aK=x.d.pK.aK,x.d.pK.oK=x.d.pK.oK,x.d.pK.dK.lo=x.d.pK.dK.lo] (.ask
  (x.d.pK.dK.hi=x.d.pK.dK.hi) (.ak [x.d.wide=x.d.wide,x.d.high=x.d.high,x.d.turn=x.d.turn,0=0,x.d.ps.n=x.d.ps.n,Cap.of 0 =
  Cap.of 0,0=0,x.sK.n=x.sK.n,Cap.of 0=Cap.of 0,0=0,x.hang.n=x.hang.n,Cap.of 0=Cap.of 0,x.lost=x.lost] (.ask
  (x.fK=x.fK) (.ak [0=0,C.length=C.length,Cap.of 0=Cap.of 0,C.length=C.length,Q1 2 C.length (λi=>(QG C i).length) (fun
  i=>(QG C i).length) (λi j=>QA.enc ((QG C i).getD j ⟨0,0⟩)) λi j=>QA.enc ((QG C i).getD j ⟨0,0⟩)] (.ak (xp x) (.asm (True) (.all (λ(g0:Nat->Value)
  => .leaf (.bool true true) ((QSU f' has' l many' moved' n'
  turned'))))))))))))))))))))))))))))))))))))))))))))))))))))))))))))))))):=by kernel_rfl
theorem QeO(C:List (List QB))(l:List QB)(has:Int->Bool)(many n:Int)(f:List QB)(moved turned:Int)(has':Int->Bool)(many' n':Int)(f':List QB)(moved' turned':Int):QI 360 [(.bool true true)] ((QSU f' has' l many' moved' n' turned')) (Kb (tdU x C (QP f41 0).1 (QP f41 0).2 l has many n f moved turned has' many' n' f' moved' turned'))=(some ([true=true,0=0,l.length=l.length,cO=cO,l.length<=l.length,QC 2 l.length (λi=>QA.enc (l.getD i ⟨0,0⟩)) λi=>QA.enc (l.getD i ⟨0,0⟩),Ka (vj 0) (vj 0) has' has' (λi=>vi (QJ l i)) λi=>vi (QJ l i),LoopState.ready=LoopState.ready,(none:Option Code)=none,Array.mk [12]=Array.mk [(12:Tmp)],(QP f41 0).1=(QP f41 0).1,(QP f41 0).2=(QP f41 0).2,0=0,0=0,(0:Int)=0,Fn.func (42:FuncId)=Fn.func (42:FuncId)]++Wb++Wb++[0=0,0=0,(0:Int)=0,false=false]++Wb++[Fn.func (79:FuncId)=Fn.func (79:FuncId),0=0,0=0,many'=many',n'=n',0=0,f'.length=f'.length,cO=cO,f'.length<=f'.length,QC 2 f'.length (λi=>QA.enc (f'.getD i ⟨0, 0⟩)) λi=>QA.enc (f'.getD i ⟨0,0⟩),moved'=moved',turned'=turned'])):=by kernel_rfl
noncomputable abbrev ZW:Code:=(QP f41 0).1
noncomputable abbrev ZV:Code:=(QP f41 0).2
theorem QN4(C:List (List QB))(ac body:Code)(l:List QB)(has:Int->Bool)(many n:Int)(f:List QB)(moved turned:Int)(has':Int->Bool)(many' n':Int)(f':List QB)(moved' turned':Int):(tdU x C ac body l has many n f moved turned has' many' n' f' moved' turned').Ok:=by
 refine⟨(by decide:336<=360),rfl,rfl,?_,rfl,λ_ _=>rfl,λnid h=>?_⟩
 .intro q hq;simp only[UC.po,tdU,tdW,rwL,List.mem_cons,List.not_mem_nil,or_false]at hq;rcases hq with rfl|rfl|rfl|rfl|rfl|rfl|rfl|rfl|rfl|rfl<;>refine⟨rfl,rfl,rfl,?_⟩<;>first|exact λ_=>rfl|exact λh=>absurd (show 360<336 from h) (by decide)|exact λh=>absurd (show 361<336 from h) (by decide)
 .have e0:=YU 336 360 0 nid (by decide)
  have e1:=YU 336 360 1 nid (by decide)
  simp only[UC.po,tdU,tdW,rwL,QCw,tdT,List.map_cons,List.map_nil,Blk.mapId,AV.mapId,AV.mapIdL,Nat.add_zero]at e0 e1 ⊢;rw[e0,e1];rfl
theorem QV9{x:QD}(hx:Kx x)(C:List (List QB))(hpos:0<x.sK.n){l:List QB}(hn:l.length=x.sK.n)(hl:∀ c∈l,K8 c)(s:TdS)(h:Int->Bool)(hgd:XR x s):QO prog 80 (uFC (WG x C ZW ZV l h s (J4 x tdY l s h))):=by
 obtain⟨many,n,f,moved,turned⟩:=s;have hs:=hx.s;have hd:=hx.d.n9;have hgd:XR x (many,n,f,moved,turned):=hgd;have hT:QZ (zr QV (tmU l f n moved turned (KQ n l f) (mvL l (KQ n l f) moved l.length) (tuL l (KQ n l f) turned l.length))):=KC.add (Qbv l f n moved turned (by omega) (by omega) (λq=>(hgd q).trans hn.symm))
 have fin:∀(s':TdS),XU (jv (tdU x C ZW ZV l h many n f moved turned h s'.1 s'.2.1 s'.2.2.1 s'.2.2.2.1 s'.2.2.2.2)) (Js (mkE prog (zr QV (tmU l f n moved turned (KQ n l f) (mvL l (KQ n l f) moved l.length) (tuL l (KQ n l f) turned l.length)))) (msN prog (zr QV (tmU l f n moved turned (KQ n l f) (mvL l (KQ n l f) moved l.length) (tuL l (KQ n l f) turned l.length)))) f80 (tdU x C ZW ZV l h many n f moved turned h s'.1 s'.2.1 s'.2.2.1 s'.2.2.2.1 s'.2.2.2.2))->QO prog 80 (uFC (tdU x C ZW ZV l h many n f moved turned h s'.1 s'.2.1 s'.2.2.1 s'.2.2.2.1 s'.2.2.2.2)):=λs' hd=>
  JT (E:=mkE prog (zr QV (tmU l f n moved turned (KQ n l f) (mvL l (KQ n l f) moved l.length) (tuL l (KQ n l f) turned l.length)))) (QL hT) func80 (by kernel_rfl) (by kernel_rfl) (QN4 ..) (λG h1 _=>HK _ hT G h1) ⟨hd⟩
 have he:=QBo (x:=x) (l:=l) (by omega) (by omega)
 cases hb:YF x l with
 | true=>
  rw[hb]at he;simp only[J4,hb,WG];refine fin (many,n,f,moved,turned) (Qp (QPC QV x C l h many n f moved turned (KQ n l f) (mvL l (KQ n l f) moved l.length) (tuL l (KQ n l f) turned l.length)) ?_);refine QH (λ_=>QF rfl (QH (λ_=>?_) (λq=>Bool.noConfusion (show true=false from he.symm.trans q)))) (λq=>by rw[hn]at q;simp at q)
  refine⟨rfl,rfl,_,Qa9 x C l h many n f moved turned,?_⟩
  repeat' first|with_reducible refine QK ?_ ?_|exact trivial|with_reducible rfl|exact qlr _|exact qRr|exact QS _ _ _ _|exact K7 _ _ _|refine aI ?_ ?_
 | false=>
  rw[hb]at he;simp only[J4,hb,tdY,WG];refine fin (tdY (many,n,f,moved,turned) l).1 (Qp (QPC QV x C l h many n f moved turned (KQ n l f) (mvL l (KQ n l f) moved l.length) (tuL l (KQ n l f) turned l.length)) ?_);refine QH (λ_=>QF rfl (QH (λq=>Bool.noConfusion (show true=false from q.symm.trans he)) (λ_=>QF (KP.2 ?_) ?_))) (λq=>by rw[hn]at q;simp at q)
  .repeat' first|with_reducible refine QK ?_ ?_|exact trivial|with_reducible rfl|exact qlr _|exact qRr|exact QS _ _ _ _|refine aI ?_ ?_
  refine⟨rfl,rfl,_,QY4 x C l h many n f moved turned (KQ n l f) (mvL l (KQ n l f) moved l.length) (tuL l (KQ n l f) turned l.length) _ _ _ _ _,?_⟩
  repeat' first|with_reducible refine QK ?_ ?_|exact trivial|with_reducible rfl|exact qlr _|exact qRr|exact QS _ _ _ _|exact K7 _ _ _|exact rfl|refine aI ?_ ?_
theorem QZj{x:QD}(hx:Kx x){C:List (List QB)}{ac body:Code}{d:Nat}{cs l:List QB}(hl:l.length<1000)(hls:∀ c∈l,K8 c)(hcs:∀ c∈cs,K8 c)(IH:∀ c∈cs,∀ s h,XR x s->QO prog 80 (uFC (WG x C ac body (l++[c]) h s (Y0 x C d l s h c))))(t:TdK):(jw prog x C ac body d cs l t).Sound:=by
 unfold jw jk;split
 .rename_i hk;have hm:=zx (z:=(⟨0,0⟩:QB)) hk.1;refine Ws ((KC.add (QCz x C _ hx (QED (by simp) (by simp;omega) ?_))).add (IH _ hm _ _ hk.2))
  intro c hc;rcases List.mem_append.1 hc with h|h
  .exact hls c h
  .rw[List.mem_singleton.1 h];exact hcs _ hm
 .exact Ws ((KC.add (Zm (by kernel_rfl) _)).add (Zm (by kernel_rfl) _))
theorem QVX{x:QD}(hx:Kx x){C:List (List QB)}(hC:YH x C){ac body:Code}{d:Nat}{l:List QB}(hl:l.length+(d+1)=x.sK.n)(hls:∀ c∈l,K8 c)(IH:∀ c∈QG C l.length,∀ s h,XR x s->QO prog 80 (uFC (WG x C ac body (l++[c]) h s (Y0 x C d l s h c))))(s:TdS)(h:Int->Bool)(hgd:XR x s){X:List (Prop×Ex×JSt)}(hX:∀ e J,qm x C ac body d (QG C l.length) l (0,s,h) e J->∃ y∈X,y.1/\y.2.1=e/\y.2.2=J)(G:Ctx)(hrd:G.rd=none)(hG:G.n=360):
  Q8 (mkE prog Qu) G (tdX prog (tdJ x C ac body (QG C l.length) l h s.1 s.2.1 s.2.2.1 s.2.2.2.1 s.2.2.2.2 0) X) (Qi f80):=by
 have hs:=hx.s;refine Kg (body:=QT f80 0) (QL KC) hrd (by kernel_rfl) ?_
 have hE:=λt=>QZj hx (C:=C) (ac:=ac) (body:=body) (d:=d) (cs:=QG C l.length) (l:=l) (by omega) hls (hC.s _) IH t
 refine vo (E0:=mkE prog Qu) (E:=jw prog x C ac body d (QG C l.length) l) (H:=λt=>hnd (jw prog x C ac body d (QG C l.length) l t) 0) (n0:=360) (s0:=(0,s,h)) (λ_=>rfl) hE (by omega) (λt _=>Qw (hE t) 0 G _ hrd) (λt _=>(by decide:360<=400)) ?_ (QTR x C ac body d (QG C l.length) l (hC.le _) (by omega) (by omega)) ⟨Nat.zero_le _,hgd⟩ hX
 intro t e J hr;unfold qm at hr;split at hr
 .rw[hr.2];exact(by decide:360<=400)
 .exact hr.elim
theorem Qdv{x:QD}(hx:Kx x){C:List (List QB)}(hC:YH x C){d:Nat}{l:List QB}(hl:l.length+(d+1)=x.sK.n)(hls:∀ c∈l,K8 c)(IH:∀ c∈QG C l.length,∀ s h,XR x s->QO prog 80 (uFC (WG x C ZW ZV (l++[c]) h s (Y0 x C d l s h c))))(s:TdS)(h:Int->Bool)(hgd:XR x s):QO prog 80 (uFC (WG x C ZW ZV l h s (onT x C tdY (d+1) l s h))):=by
 obtain⟨s',h',he⟩:=Z8 (C:=C) (x:=x) (Y:=tdY) (λ_ _=>rfl) (d+1) l s h;rw[he];have hc:J2 (Ki x l (Y0 x C d l)) (QG C l.length) s h = .go s' h':=he;have hCn:=hC.n;refine JT (E:=mkE prog Qu) (QL KC) func80 (by kernel_rfl) (by kernel_rfl) (QN4 ..) (QVX hx hC hl hls IH s h hgd (X:=[(True,.exit 0,tdE ZW ZV l h' s'.1 s'.2.1 s'.2.2.1 s'.2.2.2.1 s'.2.2.2.2)]) ?_) ⟨?_⟩
 .intro e J hr;unfold qm at hr;simp only[List.drop_zero,hc]at hr;exact⟨_,qmc,trivial,hr.1.symm,hr.2.symm⟩
 .refine Qp (QTO x C (QG C l.length) l h s.1 s.2.1 s.2.2.1 s.2.2.2.1 s.2.2.2.2 h' s'.1 s'.2.1 s'.2.2.1 s'.2.2.2.1 s'.2.2.2.2) ?_;refine QH (λq=>by simp at q;omega) (λ_=>QF (by simp;omega) (QF (by simp;omega) ?_))
  repeat' first|refine QX (p:=_=_) rfl ?_|refine QX (p:=_<=_) (qlr _) ?_|refine QX (p:=QC _ _ _ _) (qRr) ?_|refine QX (p:=Q1 _ _ _ _ _ _) (QS _ _ _ _) ?_|refine QX (p:=Ka _ _ _ _ _ _) (K7 _ _ _) ?_
  refine KB λ_=>Q7 λg=>⟨rfl,rfl,_,QeO x C l h s.1 s.2.1 s.2.2.1 s.2.2.2.1 s.2.2.2.2 h' s'.1 s'.2.1 s'.2.2.1 s'.2.2.2.1 s'.2.2.2.2,?_⟩
  repeat' first|with_reducible refine QK ?_ ?_|exact tv|exact K7 _ _ _|refine aI ?_ ?_
theorem QSf{x:QD}(hx:Kx x){C:List (List QB)}(hC:YH x C)(hpos:0<x.sK.n):∀(d:Nat) (l:List QB) (s:TdS) (h:Int->Bool),l.length+d=x.sK.n->(∀ c∈l,K8 c)->XR x s->QO prog 80 (uFC (WG x C ZW ZV l h s (onT x C tdY d l s h)))
 | 0,l,s,h,hn,hl,hgd=>QV9 hx C hpos (by omega) hl s h hgd
 | d+1,l,s,h,hn,hl,hgd=>Qdv hx hC (by omega) hl (λc hc s h hgd=>QSf hx hC hpos d (l++[c]) s h (by simp;omega) (λy hy=>by
   rcases List.mem_append.1 hy with q|q
   .exact hl y q
   .rw[List.mem_singleton.1 q];exact hC.s _ c hc) hgd) s h hgd
def plT:List AV:=[.ptr 48 0 0,.agg QCN,.fn (.func 37) [],.tup [],.ptr 128 0 0,.ptr 136 0 0,.ptr 144 0 0,.bool true false,.ptr 160 0 0,.tup [],.ptr 48 0 0,.fn (.func 79) [.ptr 184 0 0],.tup [],.tup [],.tup [],.tup [],.tup [],.tup [],.tup [],.tup [],.tup [],.tup []]
def QFh:List AV:=[.ptr 256 0 0,.ptr 184 0 0,.ptr 240 0 0,.ptr 224 0 0,.ptr 264 0 0]
def plR(C:List (List QB)):List (Nat×Blk):=
 [(264,.cellsR 0 33 [.fn (.func 80) QFh]),(240,.cellsR 0 147 [.map 232]),(224,.cellsR 0 146 [.yld 217]),(184,.cellsR 0 88 [.ptr 48 0 0]),(136,.cellsR 0 98 [.fn (.func 37) []]),(48,.cellsR 0 149 (srK 49 x C)),Jm false 49 C]++JC 0 x
def plW(a:Nat)(has:Int->Bool)(many:Int)(f:Nat->Int):List (Nat×Blk):=
 [(256,.cells 0 38 [.slz a 0 l.length (.of 0)]),rwL a l,(232,.mpf .i64 (vj 0) has λi=>vi (QJ l i)),(217,.lp .ready none plT #[12] ac body),(160,.cells 0 3 [vi many]),(128,.cells 1 94 (jm f))]
def QCp(C:List (List QB))(ac body:Code)(l:List QB)(has:Int->Bool)(many:Int)(f:Nat->Int):JSt:=
 ⟨5,[(0,.ptr 256 0 0),(1,.ptr 184 0 0),(2,.ptr 240 0 0),(3,.ptr 224 0 0),(4,.ptr 264 0 0)],plW ac body l 304 has many f++plR x C,312⟩
def plU(C:List (List QB))(ac body:Code)(l:List QB)(has:Int->Bool)(many:Int)(f:Nat->Int)(has':Int->Bool)(many':Int)(f':Nat->Int):UC:=
 ⟨296,QCp x C ac body l has many f,λ_=>.bool false true,λm=>plW ac body l m has' many' f'⟩
def plJ(C:List (List QB))(ac body:Code)(cs l:List QB)(has:Int->Bool)(many:Int)(f:Nat->Int)(k:Nat):JSt:=
 ⟨98,[(0,.ptr 256 0 0),(1,.ptr 184 0 0),(2,.ptr 240 0 0),(3,.ptr 224 0 0),(4,.ptr 264 0 0),(48,.slz 328 0 cs.length (.of 0)),(49,.int false .i64 cs.length),(50,.int false .i64 k)],
  (328,.frz kB cs.length λi=>QA.enc (cs.getD i ⟨0,0⟩))::plW ac body l 320 has many f++plR x C,344⟩
def plE(f:Nat->Int):JSt:=⟨98,[],plW ac body l 320 has many f,344⟩
def Hu:List Nat:=[256,232,217,160,128]
noncomputable abbrev QFr:List AV:=
  [.nilp,.ptr 98 0 0,.ptr 256 0 0,.ptr 184 0 0,.ptr 240 0 0,.ptr 224 0 0,.ptr 264 0 0,.slz 328 0 cs.length cO,vi (cs.length:Int),.int false .i64
  (i64.wrap ((k:Int)+1))]
noncomputable abbrev QAM:Nat×Blk:=
  (217,.lp LoopState.ready none plT (Array.mk [12]) ac body)
noncomputable abbrev QE8:Nat×Blk:=
  (128,.cells 1 94 [vi (f 0),vi (f 1),vi (f 2),vi (f 3),vi (f 4),vi (f 5),vi (f 6),
  vi (f 7),vi (f 8),vi (f 9),vi (f 10),vi (f 11),vi (f 12)])
noncomputable abbrev QAX:Nat×Blk:=
  (184,.cellsR 0 88 [.ptr 48 0 0])
noncomputable abbrev QIe:Nat×Blk:=
  (264,.cellsR 0 33 [.fn (Fn.func 80) [.ptr 256 0 0,.ptr 184 0 0,.ptr 240 0 0,.ptr 224 0 0,.ptr 264 0 0]])
noncomputable abbrev QFJ:Nat×Blk:=
  (328,.frz kB cs.length λi=>QA.enc (cs.getD i ⟨0,0⟩))
noncomputable abbrev Gy:Nat×Blk:=
  (48,.cellsR 0 149 [vi x.d.pK.length,vi x.d.pK.aK,vi x.d.pK.oK,vi x.d.pK.dK.lo,.int false .i64
  x.d.pK.dK.hi,vi x.d.wide,vi x.d.high,.bool false x.d.turn,.slz 0 0 x.d.ps.n cO,.slz 1 0 x.sK.n cO,.slz 2 0 x.hang.n (Cap.of
  0),vi x.lost,vi x.fK,.slz 49 0 C.length cO])
noncomputable abbrev QAD:Nat×Blk:=
  (136,.cellsR 0 98 [.fn (Fn.func 37) []])
abbrev Ze:List CK:=
  [.int .i64,.int .i64,.int .i64,.int .i64,.int .i64,.int .i64,.int .i64,.int .i64,.int .i64,.int .i64,.int .i64,.int .i64,.int .i64,.int .i64,.int .i64,.int .i64,.int
  .i64,.int .i64,.int .i64,.int .i64,.int .i64,.int .i64,.int .i64,.int .i64,.int .i64,.int .i64,.int .i64,.int .i64]
noncomputable abbrev Gz:Nat×Blk:=
  (2,.frz [.int .i64,.int .i64,.int .i64,.int .i64] x.hang.n λi=>QA.enc (x.hang.get i))
noncomputable abbrev Hn:Nat×Blk:=
  (49,.frz2 false 38 kB C.length (λi=>(QG C i).length) λi j=>QA.enc ((QG C i).getD j ⟨0,0⟩))
noncomputable abbrev QP7(has:Int->Bool)(l:List QB)(many:Int)(x:QD):List (Nat×Blk):=
  [(256,.cells 0 38 [.slz 320 0 l.length cO]),(232,.mpf i64 (vj 0) has λi=>vi (QJ l i)),(QAM ac body),(160,.cells 0 3 [.int
  false .i64 many]),(QE8 f),QAX,(240,.cellsR 0 147 [.map 232]),(224,.cellsR 0 146 [.yld 217]),QIe,(QFJ cs),(320,.rowz true 80 kB l.length λi=>
  QA.enc (l.getD i ⟨0,0⟩)),(Gy C x),QAD,(0,.frz Ze x.d.ps.n λi=>QA.enc (x.d.ps.get i)),(1,.frz Ze x.sK.n λi=>QA.enc (x.sK.get i)),(Gz x),
  (Hn C)]
noncomputable abbrev QBe:List AV:=
  [vi (cs.getD k ⟨0,0⟩).cell,vi (cs.getD k ⟨0,0⟩).turn]
noncomputable abbrev QQn(has:Int->Bool)(k:Nat)(l:List QB)(many:Int)(x:QD):List (Nat×Blk):=
  [(256,.cells 0 38 [.slz 952 0 (i64.wrap ((↑(l.length+1):Int)-1)).toNat cO]),(232,.mpf i64 (vj 0) (Qc (cs.getD k ⟨0,0⟩).cell true
  (Qc (cs.getD k ⟨0,0⟩).cell true has)) (KO (cs.getD k ⟨0,0⟩).cell (vi (i64.wrap (toI (Bool.rec ((λ_=>(λi=>vi (QJ l i)) ((λi=>
  QA.enc (cs.getD i ⟨0,0⟩)) ((k:Int).toNat+0) 0)) ()) ((λ_=>vi (i64.wrap (toI ((λi=>vi (QJ l i)) ((λi=>QA.enc (cs.getD i
  ⟨0,0⟩)) ((k:Int).toNat+0) 0))+1))) ()) (decide ((λi=>QA.enc (cs.getD i ⟨0,0⟩)) ((k:Int).toNat+0) 0=(λi=>QA.enc (cs.getD i ⟨0,0⟩)) ((k:Int).toNat+0)
  0)))-1))) (KO (cs.getD k ⟨0,0⟩).cell (vi (i64.wrap (toI (vi (QJ l (cs.getD k ⟨0,0⟩).cell))+1))) λi=>vi (QJ l i)))),
  (QAM ac body),(160,.cells 0 3 [vi many]),(QE8 f),QAX,(240,.cellsR 0 147 [.map 232]),(224,.cellsR 0 146 [.yld 217]),QIe,(QFJ cs),(952,.rowz true 80 kB (l.length+1) (Qa l.length (λi=>QA.enc (l.getD i ⟨0,0⟩)) (QU [(QBe cs k)] 0))),(Gy C x),QAD,(0,.frz Ze x.d.ps.n λi=>QA.enc
  (x.d.ps.get i)),(1,.frz Ze x.sK.n λi=>QA.enc (x.sK.get i)),(Gz x),(Hn C)]
noncomputable abbrev QSq(k:Nat)(l2:List QB):Nat×Blk:=
  (232,.mpf i64 (vj 0) (Qc (cs.getD k ⟨0,0⟩).cell true has') (KO (cs.getD k ⟨0,0⟩).cell (vi (i64.wrap (toI (vi (QJ l2
  (cs.getD k ⟨0,0⟩).cell))-1))) λi=>vi (QJ l2 i)))
noncomputable abbrev QRB:Nat×Blk:=
  (128,.cells 1 94 [vi (f' 0),vi (f' 1),vi (f' 2),vi (f' 3),vi (f' 4),vi (f' 5),.int false .i64
  (f' 6),vi (f' 7),vi (f' 8),vi (f' 9),vi (f' 10),vi (f' 11),vi (f' 12)])
noncomputable abbrev QQk(has':Int->Bool)(k:Nat)(l2:List QB)(many':Int)(x:QD):List (Nat×Blk):=
  [(256,.cells 0 38 [.slz 1064 0 (i64.wrap ((l2.length:Int)-1)).toNat cO]),(QSq cs has' k l2),(QAM ac body),(160,.cells 0 3 [vi many']),
  (QRB f'),QAX,(240,.cellsR 0 147 [.map 232]),(224,.cellsR 0 146 [.yld 217]),QIe,(QFJ cs),(1064,.rowz true 80 kB l2.length λi=>QA.enc
  (l2.getD i ⟨0,0⟩)),(Gy C x),QAD,(0,.frz Ze x.d.ps.n λi=>QA.enc (x.d.ps.get i)),(1,.frz Ze x.sK.n λi=>QA.enc (x.sK.get i)),(Gz x),(Hn C)]
noncomputable abbrev QJQ(has:Int->Bool)(l:List QB)(many:Int)(x:QD):List (Nat×Blk):=
  [(256,.cells 0 38 [.slz 320 0 l.length cO]),(232,.mpf i64 (vj 0) has λi=>vi (QJ l i)),(QAM ac body),(160,.cells 0 3 [.int
  false .i64 many]),(QE8 f),(320,.rowz true 80 kB l.length λi=>QA.enc (l.getD i ⟨0,0⟩)),(Gy C x),QAD,QAX,(0,.frz Ze x.d.ps.n λi=>
  QA.enc (x.d.ps.get i)),(1,.frz Ze x.sK.n λi=>QA.enc (x.sK.get i)),(Gz x),(Hn C)]
theorem QeI(pb1 pb2:List Prop->Bool)(x:QD)(C:List (List QB))(ac body:Code)(cs l l2:List QB)(has has2:Int->Bool)(many:Int)(f:Nat->Int)(k:Nat)(has':Int->Bool)(many':Int)(f':Nat->Int)(g:Nat->Value):exec (mkC prog (X7 pb1 pb2 x C l2 (plU x C ac body l2 has2 many f has' many' f'))) (hnd (mkC prog (X7 pb1 pb2 x C l2 (plU x C ac body l2 has2 many f has' many' f'))) 0) (QT f80 0) (JSt.inst (plJ x C ac body cs l has many f k) g) (KG Hu WQ) = .br (decide ((k:Int)<(cs.length:Int))) (.need (decide ((0:Int)<=(k:Int)/\(k:Int)<(cs.length:Int))&&decide (cs.length<=cs.length)) (.need (decide (k<cs.length)) (.all (λ(g0:Nat->Value)=>.need (isI i64 (vi (QJ l (cs.getD k ⟨0,0⟩).cell))) (.br (decide (toI (vi (QJ l (cs.getD k ⟨0,0⟩).cell))≥bif (cs.getD k ⟨0,0⟩).cell == -2 then x.fK else (1:Int))) (.leaf (.tup (QFr cs k)) ((QP7 C ac body cs f has l many x))) (.need (decide (l.length<=l.length)&&(true&&decide ((l.length+1+(l.length+1) / 4+192)*16<=281474976710656/\l.length+1<=9223372036854775807))) (.need (isI i64 (vi (QJ l (cs.getD k ⟨0,0⟩).cell))) (.need (pb1 ([0=0,0=0,0=0,l.length+1=l2.length,cO=cO,l2.length<=l.length+1,QC 2 l2.length (Qa l.length (λi=>QA.enc (l.getD i ⟨0,0⟩)) (QU [(QBe cs k)] 0)) λi=>QA.enc (l2.getD i ⟨0,0⟩), x.d.pK.length=x.d.pK.length,x.d.pK.aK=x.d.pK.aK,x.d.pK.oK=x.d.pK.oK,x.d.pK.dK.lo=x.d.pK.dK.lo,x.d.pK.dK.hi=x.d.pK.dK.hi, x.d.wide=x.d.wide,x.d.high=x.d.high,x.d.turn=x.d.turn,0=0,x.d.ps.n=x.d.ps.n,cO=cO,0=0,x.sK.n=x.sK.n,cO=cO,0=0,x.hang.n=x.hang.n,cO=cO,x.lost=x.lost,x.fK=x.fK,0=0,C.length=C.length,cO=cO,C.length=C.length,Q1 2 C.length (λi=>(QG C i).length) (λi=>(QG C i).length) (λi j=>QA.enc ((QG C i).getD j ⟨0,0⟩)) λi j=>QA.enc ((QG C i).getD j ⟨0,0⟩),x.d.ps.n<=x.d.ps.n,QC 28 x.d.ps.n (λi=>QA.enc (x.d.ps.get i)) λi=>QA.enc (x.d.ps.get i),x.sK.n<=x.sK.n,QC 28 x.sK.n (λi=>QA.enc (x.sK.get i)) λi=>QA.enc (x.sK.get i), x.hang.n<=x.hang.n,QC 4 x.hang.n (λi=>QA.enc (x.hang.get i)) λi=>QA.enc (x.hang.get i)])) (.br (!Kn x l2) (.need (isI i64 (Bool.rec ((λ_=>(λi=>vi (QJ l i)) ((λi=>QA.enc (cs.getD i ⟨0,0⟩)) ((k:Int).toNat+0) 0)) ()) ((λ_=>vi (i64.wrap (toI ((λi=>vi (QJ l i)) ((λi=>QA.enc (cs.getD i ⟨0,0⟩)) ((k:Int).toNat+0) 0))+1))) ()) (decide ((λi=>QA.enc (cs.getD i ⟨0,0⟩)) ((k:Int).toNat+0) 0=(λi=>QA.enc (cs.getD i ⟨0,0⟩)) ((k:Int).toNat+0) 0)))) (.need (decide ((0:Int)<=i64.wrap ((↑(l.length+1):Int)-1)/\(i64.wrap ((↑(l.length+1):Int)-1)).toNat<=l.length+1-0)) (.leaf (.tup (QFr cs k)) ((QQn C ac body cs f has k l many x))))) (.need (pb2 ([0=0,0=0,0=0,0=0,0=0,0=0,0=0,0=0,0=0,0=0,0=0, l.length+1=l2.length,cO=cO,l2.length<=l.length+1,QC 2 l2.length (Qa l.length (λi=>QA.enc (l.getD i ⟨0,0⟩)) (QU [(QBe cs k)] 0)) λi=>QA.enc (l2.getD i ⟨0,0⟩),Ka (vj 0) (vj 0) (Qc (cs.getD k ⟨0,0⟩).cell true has) has2 (KO (cs.getD k ⟨0,0⟩).cell (vi (i64.wrap (toI (vi (QJ l (cs.getD k ⟨0,0⟩).cell))+1))) λi=>vi (QJ l i)) λi=>vi (QJ l2 i),LoopState.ready=LoopState.ready,(none:Option Code)=none,Array.mk [12]=Array.mk [12],ac=ac,body=body,0=0,0=0,(0:Int)=0,(0:Int)=0,(0:Int)=0,(0:Int)=0,(0:Int)=0,(0:Int)=0,(0:Int)=0,(0:Int)=0,(0:Int)=0,(0:Int)=0,(0:Int)=0,(0:Int)=0,(0:Int)=0,Fn.func 37=Fn.func 37,0=0,0=0,0=0,0=0,0=0,0=0,false=false,0=0,0=0,0=0,0=0,Fn.func 79=Fn.func 79,0=0,0=0,many=many,f 0=f 0,f 1=f 1,f 2=f 2,f 3=f 3,f 4=f 4,f 5=f 5,f 6=f 6,f 7=f 7,f 8=f 8,f 9=f 9,f 10=f 10,f 11=f 11,f 12=f 12,Fn.func 80=Fn.func 80,0=0,0=0,0=0,0=0,0=0,0=0,0=0,0=0,0=0,0=0,0=0, 0=0,Fn.func 37=Fn.func 37,x.d.pK.length=x.d.pK.length,x.d.pK.aK=x.d.pK.aK,x.d.pK.oK=x.d.pK.oK,x.d.pK.dK.lo=x.d.pK.dK.lo, x.d.pK.dK.hi=x.d.pK.dK.hi,x.d.wide=x.d.wide,x.d.high=x.d.high,x.d.turn=x.d.turn,0=0,x.d.ps.n=x.d.ps.n,cO=cO,0=0,x.sK.n=x.sK.n, cO=cO,0=0,x.hang.n=x.hang.n,cO=cO,x.lost=x.lost,x.fK=x.fK,0=0,C.length=C.length,cO=cO,C.length=C.length, Q1 2 C.length (λi=>(QG C i).length) (λi=>(QG C i).length) (λi j=>QA.enc ((QG C i).getD j ⟨0,0⟩)) λi j=>QA.enc ((QG C i).getD j ⟨0,0⟩), x.d.ps.n<=x.d.ps.n,QC 28 x.d.ps.n (λi=>QA.enc (x.d.ps.get i)) λi=>QA.enc (x.d.ps.get i),x.sK.n<=x.sK.n,QC 28 x.sK.n (λi=>QA.enc (x.sK.get i)) λi=>QA.enc (x.sK.get i),x.hang.n<=x.hang.n,QC 4 x.hang.n (λi=>QA.enc (x.hang.get i)) λi=>QA.enc (x.hang.get i)])) (.need (isI i64 (vi (QJ l2 (cs.getD k ⟨0,0⟩).cell))) (.need (decide ((0:Int)<=i64.wrap ((l2.length:Int)-1)/\(i64.wrap ((l2.length:Int)-1)).toNat<=l2.length-0)) (.br (false) (.leaf (.tup [.nili,.ptr 98 0 0,.bool true false]) ([(256,.cells 0 38 [.slz 1064 0 (i64.wrap ((l2.length:Int)-1)).toNat cO]),(QSq cs has' k l2),(QAM ac body),(160,.cells 0 3 [vi many']),(QRB f'),(1064,.rowz true 80 kB l2.length λi=>QA.enc (l2.getD i ⟨0,0⟩)),(Gy C x),QAD,QAX,(0,.frz Ze x.d.ps.n λi=>QA.enc (x.d.ps.get i)),(1,.frz Ze x.sK.n λi=>QA.enc (x.sK.get i)),(Gz x),(Hn C)])) (.leaf (.tup (QFr cs k)) ((QQk C ac body cs f' has' k l2 many' x)))))))))))))))) (.leaf (.tup [.ptr 0 0 0,.ptr 98 0 0]) ((QJQ C ac body f has l many x))):=by kernel_rfl
noncomputable abbrev QE0:List AV:=
  [.ptr 256 0 0,.ptr 184 0 0,.ptr 240 0 0,.ptr 224 0 0,.ptr 264 0 0,.slz 328 0 cs.length cO,vi (cs.length:Int),vi (i64.wrap ((k :
  Int)+1))]
abbrev YN:List Prop:=
  [0=0,0=0,0=0,0=0,0=0,0=0]
abbrev QGd(k':Nat):List Prop:=
  [0=0,0=0,0=0,0=0,0=0,cs.length=cs.length,cO=cO,(cs.length:Int)=(cs.length:Int),i64.wrap ((k:Int)+1)=(k':Int),cs.length <=
  cs.length,QC 2 cs.length (λi=>QA.enc (cs.getD i ⟨0,0⟩)) λi=>QA.enc (cs.getD i ⟨0,0⟩),0=0]
abbrev QOt(l:List QB):List Prop:=
  [l.length=l.length,cO=cO,l.length<=l.length,QC 2 l.length (λi=>QA.enc (l.getD i ⟨0,0⟩)) λi=>QA.enc (l.getD i ⟨0,0⟩),Ka (.int true .i64 0)
  (.int true .i64 0) has has (λi=>.int false .i64 (QJ l i)) λi=>.int false .i64 (QJ l i),LoopState.ready=LoopState.ready,(none:Option Code)=none,Array.mk [12] =
  Array.mk [(12:Tmp)],ac=ac,body=body,0=0,0=0]
abbrev QCR:List Prop:=
  [(0:Int)=0,(0:Int)=0,(0:Int)=0,(0:Int)=0,(0:Int)=0,(0:Int)=0,(0:Int)=0,(0:Int)=0]
abbrev QEV:List Prop:=
  [(0:Int)=0,(0:Int)=0,(0:Int)=0,(0:Int)=0]
abbrev QHn:List Prop:=
  [0=0,0=0,0=0,Fn.func (79:FuncId)=Fn.func (79:FuncId),0=0,0=0,many=many,f 0=f 0,f 1=f 1,f 2=f 2,f 3=f 3,f 4=f 4,f 5=f 5,f 6=f 6,f 7=f
  7,f 8=f 8,f 9=f 9,f 10=f 10,f 11=f 11,f 12=f 12]
abbrev QI3:List Prop:=
  [x.d.pK.length=x.d.pK.length,x.d.pK.aK=x.d.pK.aK,x.d.pK.oK=x.d.pK.oK,x.d.pK.dK.lo=x.d.pK.dK.lo,x.d.pK.dK.hi=x.d.pK.dK.hi,
  x.d.wide=x.d.wide,x.d.high=x.d.high,x.d.turn=x.d.turn,0=0,x.d.ps.n=x.d.ps.n,cO=cO,0=0,x.sK.n=x.sK.n,cO=cO,0=0,x.hang.n =
  x.hang.n,cO=cO,x.lost=x.lost,x.fK=x.fK,0=0,C.length=C.length,cO=cO,C.length=C.length,Q1 2 C.length (λi=>(QG C
  i).length) (λi=>(QG C i).length) (λi j=>QA.enc ((QG C i).getD j ⟨0,0⟩)) λi j=>QA.enc ((QG C i).getD j ⟨0,0⟩),x.d.ps.n<=x.d.ps.n,QC 28 x.d.ps.n (fun
  i=>QA.enc (x.d.ps.get i)) λi=>QA.enc (x.d.ps.get i),x.sK.n<=x.sK.n,QC 28 x.sK.n (λi=>QA.enc (x.sK.get i)) λi=>QA.enc (x.sK.get i),
  x.hang.n<=x.hang.n,QC 4 x.hang.n (λi=>QA.enc (x.hang.get i)) λi=>QA.enc (x.hang.get i)]
theorem QdO(C:List (List QB))(ac body:Code)(cs l:List QB)(has:Int->Bool)(many:Int)(f:Nat->Int)(k k':Nat):QI 312 (QE0 cs k) ((QP7 C ac body cs f has l many x)) (plJ x C ac body cs l has many f k')=(some (YN++(QGd cs k k')++(QOt ac body has l)++QCR++QEV++[(0:Int)=0,Fn.func (37:FuncId)=Fn.func (37:FuncId)]++YN++[false=false,0=0]++(QHn f many)++[Fn.func 80=Fn.func (80:FuncId)]++YN++YN++[Fn.func 37=Fn.func (37:FuncId)]++(QI3 C x))):=by kernel_rfl
theorem QTr(x:QD)(C:List (List QB))(ac body:Code)(cs l:List QB)(has h':Int->Bool)(many:Int)(f:Nat->Int)(k k':Nat):QI 312 (QE0 cs k) ((QQn C ac body cs f has k l many x)) (plJ x C ac body cs l h' many f k')=(some (YN++(QGd cs k k')++[(i64.wrap ((↑(l.length+1):Int)-1)).toNat=l.length,cO=cO,l.length<=l.length+1,QC 2 l.length (Qa l.length (λi=>QA.enc (l.getD i ⟨0,0⟩)) (QU [(QBe cs k)] 0)) λi=>QA.enc (l.getD i ⟨0,0⟩),Ka (vj 0) (vj 0) (Qc (cs.getD k ⟨0,0⟩).cell true (Qc (cs.getD k ⟨0,0⟩).cell true has)) h' (KO (cs.getD k ⟨0,0⟩).cell (vi (i64.wrap (toI (Bool.rec ((λx=>(λi=>vi (QJ l i)) ((λi=>QA.enc (cs.getD i ⟨0,0⟩)) ((k:Int).toNat+0) 0)) ()) ((λx=>vi (i64.wrap (toI ((λi=>vi (QJ l i)) ((λi=>QA.enc (cs.getD i ⟨0,0⟩)) ((k:Int).toNat+0) 0))+1))) ()) (decide ((λi=>QA.enc (cs.getD i ⟨0,0⟩)) ((k:Int).toNat+0) 0=(λi=>QA.enc (cs.getD i ⟨0,0⟩)) ((k:Int).toNat+0) 0)))-1))) (KO (cs.getD k ⟨0,0⟩).cell (vi (i64.wrap (toI (vi (QJ l (cs.getD k ⟨0,0⟩).cell))+1))) λi=>vi (QJ l i))) λi=>vi (QJ l i),LoopState.ready=LoopState.ready,(none:Option Code)=none,Array.mk [12]=Array.mk [(12:Tmp)],ac=ac,body=body,0=0,0=0]++QCR++QEV++[(0:Int)=0,Fn.func (37:FuncId)=Fn.func (37:FuncId)]++YN++[false=false,0=0]++(QHn f many)++[Fn.func 80=Fn.func (80:FuncId)]++YN++YN++[Fn.func 37=Fn.func (37:FuncId)] ++ (QI3 C x))):=by kernel_rfl
theorem QWq(C:List (List QB))(ac body:Code)(cs l l2:List QB)(k:Nat)(has' h':Int->Bool)(many':Int)(f':Nat->Int)(k':Nat):QI 312 (QE0 cs k) ((QQk C ac body cs f' has' k l2 many' x)) (plJ x C ac body cs l h' many' f' k')=(some (YN++(QGd cs k k')++[(i64.wrap ((l2.length:Int)-1)).toNat=l.length,cO=cO,l.length<=l2.length,QC 2 l.length (λi=>QA.enc (l2.getD i ⟨0,0⟩)) λi=>QA.enc (l.getD i ⟨0,0⟩),Ka (vj 0) (vj 0) (Qc (cs.getD k ⟨0,0⟩).cell true has') h' (KO (cs.getD k ⟨0,0⟩).cell (vi (i64.wrap (toI (vi (QJ l2 (cs.getD k ⟨0, 0⟩).cell))-1))) λi=>vi (QJ l2 i)) λi=>vi (QJ l i),LoopState.ready=LoopState.ready,(none:Option Code)=none,Array.mk [12]=Array.mk [(12:Tmp)],ac=ac,body=body,0=0,0=0]++QCR++QEV++[(0:Int)=0,Fn.func (37:FuncId)=Fn.func (37:FuncId)]++YN++[false=false,0=0,0=0,0=0,0=0,Fn.func (79:FuncId)=Fn.func (79:FuncId),0=0,0=0,many'=many',f' 0=f' 0,f' 1=f' 1,f' 2=f' 2,f' 3=f' 3,f' 4=f' 4,f' 5=f' 5,f' 6=f' 6,f' 7=f' 7,f' 8=f' 8,f' 9=f' 9,f' 10=f' 10,f' 11=f' 11,f' 12=f' 12,Fn.func 80=Fn.func (80:FuncId)]++YN++YN++[Fn.func 37=Fn.func (37:FuncId)] ++ (QI3 C x))):=by kernel_rfl
theorem QTa(C:List (List QB))(ac body:Code)(l:List QB)(has:Int->Bool)(many:Int)(f:Nat->Int):QI 312 [] ((QJQ C ac body f has l many x)) (plE ac body l has many f)=(some ([0=0]++(QOt ac body has l)++QCR++QEV++[(0:Int)=0,Fn.func (37:FuncId)=Fn.func (37:FuncId)]++YN++[false=false,0=0]++(QHn f many))):=by kernel_rfl
abbrev PlS:=Int×(Nat->Int)
def plY(s:PlS)(l:List QB):PlS×Bool:=((i64.wrap (s.1+1),plL l s.2 l.length),true)
def XW(x:QD)(s:PlS):Prop:=True
theorem QbV{x:QD}{s:PlS}{l:List QB}(_:XW x s)(_:l.length=x.sK.n):XW x (plY s l).1:=trivial
def WK(C:List (List QB))(ac body:Code)(l:List QB)(has:Int->Bool)(s:PlS):Res PlS->UC
 | .go s' h'=>plU x C ac body l has s.1 s.2 h' s'.1 s'.2
 | .stop s' h'=>plU x C ac body l has s.1 s.2 h' s'.1 s'.2
abbrev PlK:=Nat×PlS×(Int->Bool)
open Classical in
noncomputable def qz(s:PlS):List Prop->Bool:=if k<cs.length/\XW x s then QV else λ_=>false
def Yv(C:List (List QB))(d:Nat)(l:List QB)(s:PlS)(h:Int->Bool)(c:QB):Res PlS:=onT x C plY d (l++[c]) s h
noncomputable def jL(P:Program)(x:QD)(C:List (List QB))(ac body:Code)(d:Nat)(cs l:List QB)(t:PlK):Env:=
 mkC P (X7 (qz x cs t.1 t.2.1) (qz x cs t.1 t.2.1) x C (l++[cs.getD t.1 ⟨0,0⟩]) (WK x C ac body (l++[cs.getD t.1 ⟨0,0⟩]) (Qc (cs.getD t.1 ⟨0,0⟩).cell true t.2.2) t.2.1 (Yv x C d l t.2.1 (Qc (cs.getD t.1 ⟨0,0⟩).cell true t.2.2) (cs.getD t.1 ⟨0,0⟩))))
def qf(C:List (List QB))(ac body:Code)(d:Nat)(cs l:List QB)(t:PlK)(e:Ex)(J:JSt):Prop:=match J2 (Ki x l (Yv x C d l)) (cs.drop t.1) t.2.1 t.2.2 with
 | .go s h=>e = .exit 0/\J=plE ac body l h s.1 s.2
 | .stop _ _=>False
set_option maxHeartbeats 1600000 in
theorem QfW(C:List (List QB))(ac body:Code)(d:Nat)(cs l:List QB)(hcs:cs.length<=1000)(hl:l.length<=1000)(hn:l.length+1+d=x.sK.n):qg (λt:PlK=>plJ x C ac body cs l t.2.2 t.2.1.1 t.2.1.2 t.1) (λt=>t.1<=cs.length/\XW x t.2.1) (λt=>cs.length-t.1) (qf x C ac body d cs l) 312 WQ Hu (jL prog x C ac body d cs l) (λt=>hnd (jL prog x C ac body d cs l t) 0) (QT f80 0):=by
 refine⟨λt g hk=>?_⟩;obtain⟨k,⟨many,f⟩,has⟩:=t;obtain⟨hk,hgd⟩:=hk;have hk:k<=cs.length:=hk;have hgd:XW x (many,f):=hgd;obtain⟨s',h',hrec⟩:=Z8 (C:=C) (x:=x) (Y:=plY) (λ_ _=>rfl) d (l++[cs.getD k ⟨0,0⟩]) (many,f) (Qc (cs.getD k ⟨0,0⟩).cell true has);have hgd':XW x s':=QBI (G:=XW x) (λs l hs hn=>QbV hs hn) d _ _ _ (by simp;omega) hgd hrec
 unfold jL;simp only;have hrec:Yv x C d l (many,f) (Qc (cs.getD k ⟨0,0⟩).cell true has) (cs.getD k ⟨0,0⟩) = .go s' h':=hrec;rw[hrec];refine Qp (QeI (qz x cs k (many,f)) (qz x cs k (many,f)) x C ac body cs l (l++[cs.getD k ⟨0,0⟩]) has (Qc (cs.getD k ⟨0,0⟩).cell true has) many f k h' s'.1 s'.2 g) ?_;refine QH ?_ ?_<;>intro h
 .have h:k<cs.length:=by have:=qdt h;omega
  have hw:=KW h hcs;have hpb:qz x cs k (many,f)=QV:=by unfold qz;rw[if_pos ⟨h,hgd⟩]
  rw[hpb];have step:=HO (f:=Ki x l (Yv x C d l)) h (many,f) has
  have next:∀{s2:PlS} {h2:Int->Bool},Ki x l (Yv x C d l) (many,f) has (cs.getD k ⟨0,0⟩) = .go s2 h2->∀ e J,qf x C ac body d cs l (k+1,s2,h2) e J->qf x C ac body d cs l (k,(many,f),has) e J:=by
   intro s2 h2 he e J hr;unfold qf at hr ⊢;simp only at hr ⊢;rw[step,he];exact hr
  have one:∀ b,JO x l (cs.getD k ⟨0,0⟩)=b->Ki x l (Yv x C d l) (many,f) has (cs.getD k ⟨0,0⟩)=match b with
    | true => .go (many,f) has
    | false=>match Kn x (l++[cs.getD k ⟨0,0⟩])with
     | false => .go (many,f) (Qc (cs.getD k ⟨0,0⟩).cell true (Qc (cs.getD k ⟨0,0⟩).cell true has))
     | true => .go s' (Qc (cs.getD k ⟨0,0⟩).cell true h'):=by
   intro b hb;unfold Ki;rw[hb,hrec];cases b
   .cases Kn x (l++[cs.getD k ⟨0,0⟩])<;>rfl
   .rfl
  refine QF (by simp;omega) (QF (by simp;omega) (Q7 λ_=>?_))
  refine QF rfl (QH (λhf=>?_) (λhf=>QF (by simp;omega) (QF rfl (QF (KP.2 ?_) (QH (λhq=>?_) (λhq=>?_))))))
  .have hf:JO x l (cs.getD k ⟨0,0⟩)=true:=XO.trans hf;refine⟨(k+1,(many,f),has),⟨h,hgd⟩,by show cs.length-(k+1)<cs.length-k;omega,next (one _ hf),rfl,rfl,_,QdO x C ac body cs l has many f k (k+1),?_⟩
   repeat' first|with_reducible refine QK ?_ ?_|exact tv|exact K7 _ _ _|exact hw|refine aI ?_ ?_
  .repeat' first|with_reducible refine QK ?_ ?_|exact tv|exact Z0 _ _|exact Zu _ _|exact Zo _ _ _ rfl|refine aI ?_ ?_
  .have hf:JO x l (cs.getD k ⟨0,0⟩)=false:=XO.trans hf;have hq:Kn x (l++[cs.getD k ⟨0,0⟩])=false:=by simpa using hq
   have hp:=G8 l hl;have hp1:i64.wrap (((l.length+1:Nat):Int)-1)=l.length:=(w64 (by omega) (by omega)).trans (by omega)
   have ho:=one _ hf;rw[hq]at ho;refine QF (by simp[isI]) (QF (by rw[hp1];simp) ?_)
   refine⟨(k+1,(many,f),Qc (cs.getD k ⟨0,0⟩).cell true (Qc (cs.getD k ⟨0,0⟩).cell true has)),⟨h,hgd⟩,by show cs.length-(k+1)<cs.length-k;omega,next ho,rfl,rfl,_,QTr x C ac body cs l has (Qc (cs.getD k ⟨0,0⟩).cell true (Qc (cs.getD k ⟨0,0⟩).cell true has)) many f k (k+1),?_⟩
   repeat' first|with_reducible refine QK ?_ ?_|exact tv|exact hw|exact hp|exact Nat.le_succ _|exact G4 _ _|exact Hp _ _ _ hl (by simp[toI];rfl) _|refine aI ?_ ?_
  .have hf:JO x l (cs.getD k ⟨0,0⟩)=false:=XO.trans hf;have hq:Kn x (l++[cs.getD k ⟨0,0⟩])=true:=by simpa using hq
   have hp:=QAa l (cs.getD k ⟨0,0⟩) hl
   have hp1:i64.wrap (((l++[cs.getD k ⟨0,0⟩]).length:Int)-1)=l.length:=by
    rw[List.length_append,List.length_singleton];exact(w64 (by omega) (by omega)).trans (by omega)
   have ho:=one _ hf;rw[hq]at ho;refine QF (KP.2 ?_) (QF rfl (QF (by rw[hp1];simp) (QH (λq=>by cases q) (λ_=>?_))))
   .repeat' first|with_reducible refine QK ?_ ?_|exact tv|exact Z0 _ _|exact Zu _ _|exact Zo _ _ _ rfl|exact QA0 _ _ hl rfl _|refine aI ?_ ?_
   refine⟨(k+1,s',Qc (cs.getD k ⟨0,0⟩).cell true h'),⟨h,hgd'⟩,by show cs.length-(k+1)<cs.length-k;omega,next ho,rfl,rfl,_,QWq x C ac body cs l (l++[cs.getD k ⟨0,0⟩]) k h' (Qc (cs.getD k ⟨0,0⟩).cell true h') s'.1 s'.2 (k+1),?_⟩
   repeat' first|with_reducible refine QK ?_ ?_|exact tv|exact hw|exact hp|exact(by simp:l.length<=(l++[cs.getD k ⟨0,0⟩]).length)|exact G5 _ _|exact Ga _ _ hl rfl _|refine aI ?_ ?_
 .have h:cs.length<=k:=by have:=qdf h;omega
  have he:=Gm (f:=Ki x l (Yv x C d l)) h (many,f) has;refine⟨plE ac body l has many f,by unfold qf;simp only[he,and_self],rfl,rfl,_,QTa x C ac body l has many f,?_⟩
  repeat' first|with_reducible refine QK ?_ ?_|exact tv|exact K7 _ _ _|refine aI ?_ ?_
