/- - -/
import Derived.Test.YtbpffdkemeoajaaMazb
open Go.IntKind (i64)
set_option maxRecDepth 100000
namespace Go.Proofs.Ytbpffdkemeoajaa
open Go.SX
abbrev TdS:=Int×Int×List QB×Int×Int
def tdY(s:TdS)(l:List QB):TdS×Bool:=((i64.wrap (s.1+1),i64.wrap (s.2.1+1),KI s.2.1 l s.2.2.1,mvL l (KI s.2.1 l s.2.2.1) s.2.2.2.1 l.length,tuL l (KI s.2.1 l s.2.2.1) s.2.2.2.2 l.length),true)
variable (C:List (List QB))(x:QE)(ac body:Code)(cs l:List QB)(has:Int→Bool)(k:Nat)(f:Nat→Int)(many:Int)(has':Int→Bool)(f':Nat→Int)
def V8(s:TdS):Prop:=((s.2.1==0)=false→s.2.2.1.length=x.scans.n)
theorem QUH{x:QE}{s:TdS}{l:List QB}(hs:V8 x s)(hn:l.length=x.scans.n):V8 x (tdY s l).1:=by
 intro _;show(KI s.2.1 l s.2.2.1).length=x.scans.n;unfold KI;split
 ·exact hn
 ·rename_i q;exact hs q
def Zq(C:List (List QB))(ac body:Code)(l:List QB)(has:Int→Bool)(s:TdS):Res TdS→UC
 | .go s' h'=>tdU x C ac body l has s.1 s.2.1 s.2.2.1 s.2.2.2.1 s.2.2.2.2 h' s'.1 s'.2.1 s'.2.2.1 s'.2.2.2.1 s'.2.2.2.2
 | .stop s' h'=>tdU x C ac body l has s.1 s.2.1 s.2.2.1 s.2.2.2.1 s.2.2.2.2 h' s'.1 s'.2.1 s'.2.2.1 s'.2.2.2.1 s'.2.2.2.2
abbrev TdK:=Nat×TdS×(Int→Bool)
open Classical in
noncomputable def jJ(s:TdS):List Prop→Bool:=if k<cs.length∧V8 x s then QS else fun _=>false
def Yk(C:List (List QB))(d:Nat)(l:List QB)(s:TdS)(h:Int→Bool)(c:QB):Res TdS:=onT x C tdY d (l++[c]) s h
noncomputable def qy(P:Program)(x:QE)(C:List (List QB))(ac body:Code)(d:Nat)(cs l:List QB)(t:TdK):Env:=
 mkC P (XO (jJ x cs t.1 t.2.1) (jJ x cs t.1 t.2.1) x C (l++[cs.getD t.1 ⟨0,0⟩]) (Zq x C ac body (l++[cs.getD t.1 ⟨0,0⟩]) (QW (cs.getD t.1 ⟨0,0⟩).cell true t.2.2) t.2.1 (Yk x C d l t.2.1 (QW (cs.getD t.1 ⟨0,0⟩).cell true t.2.2) (cs.getD t.1 ⟨0,0⟩))))
def qA(C:List (List QB))(ac body:Code)(d:Nat)(cs l:List QB)(t:TdK)(e:Ex)(J:JSt):Prop:=match Jk (Kf x l (Yk x C d l)) (cs.drop t.1) t.2.1 t.2.2 with
 | .go s h=>e = .exit 0∧J=tdE ac body l h s.1 s.2.1 s.2.2.1 s.2.2.2.1 s.2.2.2.2
 | .stop _ _=>False
set_option maxHeartbeats 1600000 in
theorem QX6(C:List (List QB))(ac body:Code)(d:Nat)(cs l:List QB)(hcs:cs.length≤1000)(hl:l.length≤1000)(hn:l.length+1+d=x.scans.n):jN (fun t:TdK=>tdJ x C ac body cs l t.2.2 t.2.1.1 t.2.1.2.1 t.2.1.2.2.1 t.2.1.2.2.2.1 t.2.1.2.2.2.2 t.1) (fun t=>t.1≤cs.length∧V8 x t.2.1) (fun t=>cs.length-t.1) (qA x C ac body d cs l) 360 Zp QAC (qy Try.prog x C ac body d cs l) (fun t=>hnd (qy Try.prog x C ac body d cs l t) 0) (Qd Try.f77 0):=by
 refine⟨fun t g hk => ?_⟩;obtain⟨k,⟨many,n,f,moved,turned⟩,has⟩:=t;obtain⟨hk,hgd⟩:=hk;have hk:k≤cs.length:=hk;have hgd:V8 x (many,n,f,moved,turned):=hgd;obtain⟨s',h',hrec⟩:=ZL (C:=C) (x:=x) (Y:=tdY) (fun _ _=>rfl) d (l++[cs.getD k ⟨0,0⟩]) (many,n,f,moved,turned) (QW (cs.getD k ⟨0,0⟩).cell true has);have hgd':V8 x s':=QC0 (G:=V8 x) (fun s l hs hn=>QUH hs hn) d _ _ _ (by simp;omega) hgd hrec
 unfold qy;simp only;have hrec:Yk x C d l (many,n,f,moved,turned) (QW (cs.getD k ⟨0,0⟩).cell true has) (cs.getD k ⟨0,0⟩) = .go s' h':=hrec;rw[hrec];refine Q0 (QWO (jJ x cs k (many,n,f,moved,turned)) (jJ x cs k (many,n,f,moved,turned)) x C ac body cs l (l++[cs.getD k ⟨0,0⟩]) has (QW (cs.getD k ⟨0,0⟩).cell true has) many n f moved turned k h' s'.1 s'.2.1 s'.2.2.1 s'.2.2.2.1 s'.2.2.2.2 g) ?_;refine QI (fun h => ?_) (fun h => ?_)
 ·have h:k<cs.length:=by have:=qdt h;omega
  have hw:=K6 h hcs;have hpb:jJ x cs k (many,n,f,moved,turned)=QS:=by unfold jJ;rw[if_pos ⟨h,hgd⟩]
  rw[hpb];have step:=HI (f:=Kf x l (Yk x C d l)) h (many,n,f,moved,turned) has
  have next:∀{s2:TdS} {h2:Int→Bool},Kf x l (Yk x C d l) (many,n,f,moved,turned) has (cs.getD k ⟨0,0⟩) = .go s2 h2→∀ e J,qA x C ac body d cs l (k+1,s2,h2) e J→qA x C ac body d cs l (k,(many,n,f,moved,turned),has) e J:=by
   intro s2 h2 he e J hr;unfold qA at hr ⊢;simp only at hr ⊢;rw[step,he];exact hr
  have one:∀ b,JG x l (cs.getD k ⟨0,0⟩)=b→Kf x l (Yk x C d l) (many,n,f,moved,turned) has (cs.getD k ⟨0,0⟩)=match b with
    | true => .go (many,n,f,moved,turned) has
    | false=>match Kj x (l++[cs.getD k ⟨0,0⟩])with
     | false => .go (many,n,f,moved,turned) (QW (cs.getD k ⟨0,0⟩).cell true (QW (cs.getD k ⟨0,0⟩).cell true has))
     | true => .go s' (QW (cs.getD k ⟨0,0⟩).cell true h'):=by
   intro b hb;unfold Kf;rw[hb,hrec];cases b
   ·cases Kj x (l++[cs.getD k ⟨0,0⟩])<;>rfl
   ·rfl
  refine QF (by simp;omega) (QF (by simp;omega) (KK fun _ => ?_))
  refine QF rfl (QI (fun hf => ?_) (fun hf=>QF (by simp;omega) (QF rfl (QF (Q4.2 ?_) (QI (fun hq => ?_) (fun hq => ?_))))))
  ·have hf:JG x l (cs.getD k ⟨0,0⟩)=true:=XB.trans hf;refine⟨(k+1,(many,n,f,moved,turned),has),⟨h,hgd⟩,by show cs.length-(k+1)<cs.length-k;omega,next (one _ hf),rfl,rfl,_,QW9 x C ac body cs l has many n f moved turned k (k+1),?_⟩
   repeat' first|with_reducible refine QN ?_ ?_|exact trivial|with_reducible rfl|exact qlr _|exact qRr|exact QZ _ _ _ _|exact K1 _ _ _|exact hw|refine And.intro ?_ ?_
  ·repeat' first|with_reducible refine QN ?_ ?_|exact trivial|with_reducible rfl|exact qlr _|exact qRr|exact QZ _ _ _ _|exact ZD _ _|exact ZG _ _|exact Y2 _ _ _ rfl|refine And.intro ?_ ?_
  ·have hf:JG x l (cs.getD k ⟨0,0⟩)=false:=XB.trans hf;have hq:Kj x (l++[cs.getD k ⟨0,0⟩])=false:=by simpa using hq
   have hp:=Hr l hl;have hp1:i64.wrap (((l.length+1:Nat):Int)-1)=l.length:=(w64 (by omega) (by omega)).trans (by omega)
   have ho:=one _ hf;rw[hq]at ho;refine QF (by simp[isI]) (QF (by rw[hp1];simp) ?_)
   refine⟨(k+1,(many,n,f,moved,turned),QW (cs.getD k ⟨0,0⟩).cell true (QW (cs.getD k ⟨0,0⟩).cell true has)),⟨h,hgd⟩,by show cs.length-(k+1)<cs.length-k;omega,next ho,rfl,rfl,_,Qcv x C ac body cs l has (QW (cs.getD k ⟨0,0⟩).cell true (QW (cs.getD k ⟨0,0⟩).cell true has)) many n f moved turned k (k+1),?_⟩
   repeat' first|with_reducible refine QN ?_ ?_|exact trivial|with_reducible rfl|exact qlr _|exact qRr|exact QZ _ _ _ _|exact hw|exact hp|exact Nat.le_succ _|exact H4 _ _|exact zq _ _ _ hl (by simp[toI];rfl) _|refine And.intro ?_ ?_
  ·have hf:JG x l (cs.getD k ⟨0,0⟩)=false:=XB.trans hf;have hq:Kj x (l++[cs.getD k ⟨0,0⟩])=true:=by simpa using hq
   have hp:=HX l (cs.getD k ⟨0,0⟩) hl
   have hp1:i64.wrap (((l++[cs.getD k ⟨0,0⟩]).length:Int)-1)=l.length:=by
    rw[List.length_append,List.length_singleton];exact(w64 (by omega) (by omega)).trans (by omega)
   have ho:=one _ hf;rw[hq]at ho;refine QF (Q4.2 ?_) (QF rfl (QF (by rw[hp1];simp) (QI (fun q=>by cases q) (fun _ => ?_))))
   ·repeat' first|with_reducible refine QN ?_ ?_|exact trivial|with_reducible rfl|exact qlr _|exact qRr|exact QZ _ _ _ _|exact ZD _ _|exact ZG _ _|exact Y2 _ _ _ rfl|exact H9 _ _ hl rfl _|refine And.intro ?_ ?_
   refine⟨(k+1,s',QW (cs.getD k ⟨0,0⟩).cell true h'),⟨h,hgd'⟩,by show cs.length-(k+1)<cs.length-k;omega,next ho,rfl,rfl,_,QY0 x C ac body cs l (l++[cs.getD k ⟨0,0⟩]) k h' (QW (cs.getD k ⟨0,0⟩).cell true h') s'.1 s'.2.1 s'.2.2.1 s'.2.2.2.1 s'.2.2.2.2 (k+1),?_⟩
   repeat' first|with_reducible refine QN ?_ ?_|exact trivial|with_reducible rfl|exact qlr _|exact qRr|exact QZ _ _ _ _|exact hw|exact hp|exact(by simp:l.length≤(l++[cs.getD k ⟨0,0⟩]).length)|exact Gb _ _|exact Gq _ _ hl rfl _|refine And.intro ?_ ?_
 ·have h:cs.length≤k:=by have:=of_decide_eq_false h;omega
  have he:=Gk (f:=Kf x l (Yk x C d l)) h (many,n,f,moved,turned) has;refine⟨tdE ac body l has many n f moved turned,by unfold qA;simp only[he,and_self],rfl,rfl,_,QSB x C ac body l has many n f moved turned,?_⟩
  repeat' first|with_reducible refine QN ?_ ?_|exact trivial|with_reducible rfl|exact qlr _|exact qRr|exact QZ _ _ _ _|exact K1 _ _ _|refine And.intro ?_ ?_
def vW(pb:List Prop→Bool)(U:UC):Tab:=Qe Qn 62 (Jj pb U)
abbrev tdX(P:Program)(J:JSt)(X:List (Prop×Ex×JSt)):Hnd:={ hnd (mkE P Qn) 2 with loop:=fun _=>KN 360 QAC J X }
noncomputable abbrev QE2:Nat×Blk:=
  (257,.lp LoopState.ready none tdT (Array.mk [12]) (QM Try.f53 0).1 (QM Try.f53 0).2)
noncomputable abbrev QRY:Nat×Blk:=
  (40,.cellsR 0 125 [vi x.d.play.length,vi x.d.play.slack,vi x.d.play.loose,vi x.d.play.damp.lo,.int false .i64
  x.d.play.damp.hi,vi x.d.wide,vi x.d.high,.bool false x.d.turn,.slz 0 0 x.d.ps.n cO,.slz 1 0 x.scans.n cO,.slz 2 0 x.hang.n (Cap.of
  0),vi x.lost,vi x.foreign,.slz 41 0 C.length cO])
noncomputable abbrev QNx:Nat×Blk:=
  (176,.cellsR 0 101 [.fn (Fn.func 62) [.ptr 120 0 0,.ptr 112 0 0,.ptr 104 0 0]])
abbrev QDE:List CK:=
  [.int .i64,.int .i64,.int .i64,.int .i64,.int .i64,.int .i64,.int .i64,.int .i64,.int .i64,.int .i64,.int .i64,.int .i64,.int .i64,.int .i64,.int .i64,.int .i64,.int
  .i64,.int .i64,.int .i64,.int .i64,.int .i64,.int .i64,.int .i64,.int .i64,.int .i64,.int .i64,.int .i64,.int .i64]
noncomputable abbrev QPE:Nat×Blk:=
  (41,.frz2 false 38 [.int .i64,.int .i64] C.length (fun i=>(QJ C i).length) fun i j=>QA.enc ((QJ C i).getD j ⟨0,0⟩))
noncomputable abbrev QHF(f:List QB)(has:Int→Bool)(l:List QB)(many:Int)(moved:Int)(n:Int)(turned:Int)(x:QE):List (Nat×Blk):=
  [(296,.cells 0 38 [.slz 344 0 l.length cO]),(272,.mpf i64 (.int true .i64 0) has fun i => .int false .i64 (QH l i)),QE2,(200,.cells 0 3 [.int false .i64
  many]),(168,.cells 0 3 [vi n]),(120,.cells 0 38 [.slz 352 0 f.length cO]),(112,.cells 0 92 [vi moved]),(104,.cells 0 92 [.int false .i64
  turned]),(344,.rowz true 56 [.int .i64,.int .i64] l.length fun i=>QA.enc (l.getD i ⟨0,0⟩)),(QRY C x),QNx,(224,.cellsR 0 89 [.ptr 40 0 0]),(352,.rowz true 56 [.int
  .i64,.int .i64] f.length fun i=>QA.enc (f.getD i ⟨0,0⟩)),(0,.frz QDE x.d.ps.n fun i=>QA.enc (x.d.ps.get i)),(1,.frz QDE x.scans.n fun i=>QA.enc (x.scans.get i)),
  (2,.frz [.int .i64,.int .i64,.int .i64,.int .i64] x.hang.n fun i=>QA.enc (x.hang.get i)),(QPE C)]
noncomputable abbrev QRS(f2:List QB)(has:Int→Bool)(l:List QB)(m2:Int)(many:Int)(n:Int)(t2:Int)(x:QE):List (Nat×Blk):=
  [(296,.cells 0 38 [.slz 344 0 l.length cO]),(272,.mpf i64 (.int true .i64 0) has fun i => .int false .i64 (QH l i)),QE2,(200,.cells 0 3 [.int false .i64
  (i64.wrap (many+1))]),(168,.cells 0 3 [vi (i64.wrap (n+1))]),(120,.cells 0 38 [.slz 664 0 f2.length cO]),(112,.cells 0 92 [.int false
  .i64 m2]),(104,.cells 0 92 [vi t2]),(344,.rowz true 56 [.int .i64,.int .i64] l.length fun i=>QA.enc (l.getD i ⟨0,0⟩)),(QRY C x),QNx,(224,.cellsR 0 89
  [.ptr 40 0 0]),(664,.rowz true 56 [.int .i64,.int .i64] f2.length fun i=>QA.enc (f2.getD i ⟨0,0⟩)),(0,.frz QDE x.d.ps.n fun i=>QA.enc (x.d.ps.get i)),(1,.frz QDE
  x.scans.n fun i=>QA.enc (x.scans.get i)),(2,.frz [.int .i64,.int .i64,.int .i64,.int .i64] x.hang.n fun i=>QA.enc (x.hang.get i)),(QPE C)]
theorem QPz(pb:List Prop→Bool)(x:QE)(C:List (List QB))(l:List QB)(has:Int→Bool)(many n:Int)(f:List QB)(moved turned:Int)(f2:List QB)(m2 t2:Int):(Vc (mkE Try.prog (vW pb (tmU l f n moved turned f2 m2 t2))) (msN Try.prog (vW pb (tmU l f n moved turned f2 m2 t2))) Try.f77 QG3 (QAc x C (QM Try.f53 0).1
  (QM Try.f53 0).2 l has many n f moved turned).hp 360 fun v h _=>Yc QAC v h) = .br ((l.length:Int)==(x.scans.n:Int)) (.need (isI i64 (.int false .i64 (QH l
  (-2:Int)))) (.br (decide (i64.wrap ((x.d.ps.n:Int)-i64.wrap ((l.length:Int)-toI (.int false .i64 (QH l (-2:Int)))))>x.lost)) (.leaf (.bool true true)
  ((QHF C f has l many moved n turned x))) (.need (pb ([n=n,0=0,l.length=l.length,Cap.of 0=Cap.of 0,0=0,0=0,0=0,0=0,0=0,0=0,l.length≤l.length,QC
  2 l.length (fun i=>QA.enc (l.getD i ⟨0,0⟩)) fun i=>QA.enc (l.getD i ⟨0,0⟩),0=0,f.length=f.length,Cap.of 0=Cap.of 0,f.length≤f.length,QC 2 f.length (fun i
  => QA.enc (f.getD i ⟨0,0⟩)) fun i=>QA.enc (f.getD i ⟨0,0⟩),moved=moved,turned=turned])) (.leaf (.bool true true) ((QRS C f2 has l m2 many n t2 x)))))) (.need (decide
  ((0 : Int) ≤ (l.length : Int) ∧ (l.length : Int) < (C.length : Int)) && decide (C.length ≤ C.length)) (.need (decide (l.length < C.length)) (.fail ("a loop")))) := by kernel_rfl
abbrev QML(l:List QB):List Prop:=
  [true=true,0=0,l.length=l.length,cO=cO,l.length≤l.length,QC 2 l.length (fun i=>QA.enc (l.getD i ⟨0,0⟩)) fun i=>QA.enc (l.getD i ⟨0,0⟩),
  KA (.int true .i64 0) (.int true .i64 0) has has (fun i => .int false .i64 (QH l i)) fun i => .int false .i64 (QH l i),LoopState.ready=LoopState.ready,(none:Option
  Code)=none,Array.mk [12]=Array.mk [(12:Tmp)],(QM Try.f53 0).1=(QM Try.f53 0).1,(QM Try.f53 0).2=(QM Try.f53 0).2,0=0,0=0,(0:Int)=0,Fn.func
  (62:FuncId)=Fn.func (62:FuncId)]
abbrev ZS:List Prop:=
  [0=0,0=0,0=0,0=0]
theorem QWk(C:List (List QB))(l:List QB)(has:Int→Bool)(many n:Int)(f:List QB)(moved turned:Int):QK 360 [(.bool true true)] ((QHF C f has l many moved n turned x)) (Kk (tdU x C (QM Try.f53 0).1 (QM Try.f53 0).2 l has many n f moved turned has many n f moved
  turned))=(some ((QML has l)++ZS++ZS++[0=0,0=0,(0:Int)=0,false=false]++ZS++[Fn.func (76:FuncId)=Fn.func (76:FuncId),0=0,0=0,many=many,
  n=n,0=0,f.length=f.length,cO=cO,f.length≤f.length,QC 2 f.length (fun i=>QA.enc (f.getD i ⟨0,0⟩)) fun i=>QA.enc (f.getD i ⟨0,0⟩),moved =
  moved,turned=turned])):=by kernel_rfl
theorem QZU(C:List (List QB))(l:List QB)(has:Int→Bool)(many n:Int)(f:List QB)(moved turned:Int)(f2:List QB)(m2 t2:Int)(many' n':Int)(f':List QB)(moved' turned':Int):QK 360 [(.bool true true)] ((QRS C f2 has l m2 many n t2 x)) (Kk (tdU x C (QM Try.f53 0).1 (QM Try.f53 0).2 l has many n f moved turned has many' n' f' moved' turned'))
  = (some ((QML has l)++ZS++ZS++[0=0,0=0,(0:Int)=0,false=false]++ZS++[Fn.func (76:FuncId)=Fn.func (76:FuncId),0=0,0=0,i64.wrap
  (many+1)=many',i64.wrap (n+1)=n',0=0,f2.length=f'.length,cO=cO,f'.length≤f2.length,QC 2 f'.length (fun i=>QA.enc (f2.getD i ⟨0,
  0⟩)) fun i=>QA.enc (f'.getD i ⟨0,0⟩),m2=moved',t2=turned'])):=by kernel_rfl
noncomputable abbrev QOV(f':List QB)(has':Int→Bool)(l:List QB)(many':Int)(moved':Int)(n':Int)(turned':Int):List (Nat×Blk):=
  [(296,.cells 0 38 [.slz 368 0 l.length cO]),(272,.mpf i64 (.int true .i64 0) has' fun i => .int false .i64 (QH l i)),QE2,(200,.cells 0 3 [.int false .i64
  many']),(168,.cells 0 3 [vi n']),(120,.cells 0 38 [.slz 376 0 f'.length cO]),(112,.cells 0 92 [vi moved']),(104,.cells 0 92 [.int false
  .i64 turned']),(368,.rowz true 56 [.int .i64,.int .i64] l.length fun i=>QA.enc (l.getD i ⟨0,0⟩)),(376,.rowz true 56 [.int .i64,.int .i64] f'.length fun i=>QA.enc
  (f'.getD i ⟨0,0⟩))]
theorem QUw(C:List (List QB))(cs l:List QB)(has:Int→Bool)(many n:Int)(f:List QB)(moved turned:Int)(has':Int→Bool)(many' n':Int)(f':List QB)(moved' turned':Int):(Vc (mkE Try.prog Qn) (tdX Try.prog (tdJ x C (QM Try.f53 0).1 (QM Try.f53 0).2 cs l has many n f moved turned 0) [(True,.exit 0,tdE (QM Try.f53 0).1 (QM
  Try.f53 0).2 l has' many' n' f' moved' turned')]) Try.f77 QG3 (QAc x C (QM Try.f53 0).1 (QM Try.f53 0).2 l has many n f moved turned).hp 360 fun v h _=>Yc QAC v h)
  = .br ((l.length:Int)==(x.scans.n:Int)) (.need (isI i64 (.int false .i64 (QH l (-2:Int)))) (.br (decide (i64.wrap ((x.d.ps.n:Int)-i64.wrap
  ((l.length:Int)-toI (.int false .i64 (QH l (-2:Int)))))>x.lost)) (.leaf (.bool true true) ((QHF C f has l many moved n turned x))) (.br (n==0) (.fail
  ("a call without a contract")) (.fail ("a loop"))))) (.need (decide ((0 : Int) ≤ (l.length : Int) ∧ (l.length : Int) < (C.length : Int)) && decide (C.length ≤ C.length)) (.need
  (decide (l.length<C.length)) (.ask (0=0) (.ask (0=0) (.ask (0=0) (.ask (0=0) (.ask (0=0) (.ask (0=0) (.ask (0=0) (.ask (0=0) (.ask (0=0) (.ask (0=0) (.ask (0 =
  0) (.ask ((QJ C l.length).length=cs.length) (.ask (Cap.of 0=Cap.of 0) (.ask ((↑(QJ C l.length).length:Int)=(cs.length:Int)) (.ask ((0:Int)=0) (.ask (cs.length ≤
  (QJ C l.length).length) (.ask (QC 2 cs.length (fun j=>QA.enc ((QJ C l.length).getD j ⟨0,0⟩)) fun i=>QA.enc (cs.getD i ⟨0,0⟩)) (.ask (0=0) (.ask (l.length =
  l.length) (.ask (Cap.of 0=Cap.of 0) (.ask (l.length≤l.length) (.ask (QC 2 l.length (fun i=>QA.enc (l.getD i ⟨0,0⟩)) fun i=>QA.enc (l.getD i ⟨0,0⟩)) (.ask (KA
  (.int true .i64 0) (.int true .i64 0) has has (fun i => .int false .i64 (QH l i)) fun i => .int false .i64 (QH l i)) (.ask (LoopState.ready=LoopState.ready) (.ask ((none :
  Option Code)=none) (.ask (Array.mk [(12:Tmp)]=Array.mk [(12:Tmp)]) (.ask ((QM Try.f53 0).1=(QM Try.f53 0).1) (.ask ((QM Try.f53 0).2=(QM Try.f53 0).2)
  (.ask (0=0) (.ask (0=0) (.ask ((0:Int)=0) (.ask (Fn.func (62:FuncId)=Fn.func (62:FuncId)) (.ask (0=0) (.ask (0=0) (.ask (0=0) (.ask (0=0) (.ask (0=0) (.ask
  (0=0) (.ask (0=0) (.ask (0=0) (.ask (0=0) (.ask (0=0) (.ask ((0:Int)=0) (.ask (false=false) (.ask (0=0) (.ask (0=0) (.ask (0=0) (.ask (0=0) (.ask (Fn.func
  (76:FuncId)=Fn.func (76:FuncId)) (.ask (0=0) (.ask (0=0) (.ask (many=many) (.ask (n=n) (.ask (0=0) (.ask (f.length=f.length) (.ask (Cap.of 0=Cap.of 0) (.ask
  (f.length≤f.length) (.ask (QC 2 f.length (fun i=>QA.enc (f.getD i ⟨0,0⟩)) fun i=>QA.enc (f.getD i ⟨0,0⟩)) (.ask (moved=moved) (.ask (turned=turned) (.ask
  (Fn.func (77:FuncId)=Fn.func (77:FuncId)) (.ask (0=0) (.ask (0=0) (.ask (0=0) (.ask (0=0) (.ask (0=0) (.ask (0=0) (.ask (0=0) (.ask (0=0) (.ask (0=0) (.ask
  (0=0) (.ask (0=0) (.ask (0=0) (.ask (Fn.func (62:FuncId)=Fn.func (62:FuncId)) (.ask (0=0) (.ask (0=0) (.ask (0=0) (.ask (0=0) (.ask (0=0) (.ask (0=0) (.ask
  (x.d.play.length=x.d.play.length) (.ask (x.d.play.slack=x.d.play.slack) (.ask (x.d.play.loose=x.d.play.loose) (.ask (x.d.play.damp.lo=x.d.play.damp.lo) (.ask
  (x.d.play.damp.hi=x.d.play.damp.hi) (.ask (x.d.wide=x.d.wide) (.ask (x.d.high=x.d.high) (.ask (x.d.turn=x.d.turn) (.ask (0=0) (.ask (x.d.ps.n=x.d.ps.n) (.ask (Cap.of 0 =
  Cap.of 0) (.ask (0=0) (.ask (x.scans.n=x.scans.n) (.ask (Cap.of 0=Cap.of 0) (.ask (0=0) (.ask (x.hang.n=x.hang.n) (.ask (Cap.of 0=Cap.of 0) (.ask (x.lost=x.lost) (.ask
  (x.foreign=x.foreign) (.ask (0=0) (.ask (C.length=C.length) (.ask (Cap.of 0=Cap.of 0) (.ask (C.length=C.length) (.ask (Kd 2 C.length (fun i=>(QJ C i).length) (fun
  i=>(QJ C i).length) (fun i j=>QA.enc ((QJ C i).getD j ⟨0,0⟩)) fun i j=>QA.enc ((QJ C i).getD j ⟨0,0⟩)) (.ask (x.d.ps.n≤x.d.ps.n) (.ask (QC 28 x.d.ps.n (fun i
  => QA.enc (x.d.ps.get i)) fun i=>QA.enc (x.d.ps.get i)) (.ask (x.scans.n≤x.scans.n) (.ask (QC 28 x.scans.n (fun i=>QA.enc (x.scans.get i)) fun i=>QA.enc
  (x.scans.get i)) (.ask (x.hang.n≤x.hang.n) (.ask (QC 4 x.hang.n (fun i=>QA.enc (x.hang.get i)) fun i=>QA.enc (x.hang.get i)) (.asm (True) (.all (fun(g0:Nat→Value)
  => .leaf (.bool true true) ((QOV f' has' l many' moved' n'
  turned'))))))))))))))))))))))))))))))))))))))))))))))))))))))))))))))))))))))))))))))))))))))))))))))))))))))))))))))))))))):=by kernel_rfl
theorem QUt(C:List (List QB))(l:List QB)(has:Int→Bool)(many n:Int)(f:List QB)(moved turned:Int)(has':Int→Bool)(many' n':Int)(f':List QB)(moved' turned':Int):QK 360 [(.bool true true)] ((QOV f' has' l many' moved' n' turned')) (Kk (tdU x C (QM Try.f53 0).1 (QM Try.f53 0).2 l has many n f moved turned has' many' n' f' moved'
  turned'))=(some ([true=true,0=0,l.length=l.length,cO=cO,l.length≤l.length,QC 2 l.length (fun i=>QA.enc (l.getD i ⟨0,0⟩)) fun i=>QA.enc
  (l.getD i ⟨0,0⟩),KA (.int true .i64 0) (.int true .i64 0) has' has' (fun i => .int false .i64 (QH l i)) fun i => .int false .i64 (QH l i),LoopState.ready =
  LoopState.ready,(none:Option Code)=none,Array.mk [12]=Array.mk [(12:Tmp)],(QM Try.f53 0).1=(QM Try.f53 0).1,(QM Try.f53 0).2=(QM Try.f53 0).2,0=0,
  0=0,(0:Int)=0,Fn.func (62:FuncId)=Fn.func (62:FuncId)]++ZS++ZS++[0=0,0=0,(0:Int)=0,false=false]++ZS++[Fn.func (76:FuncId)=Fn.func (76
  : FuncId),0=0,0=0,many'=many',n'=n',0=0,f'.length=f'.length,cO=cO,f'.length≤f'.length,QC 2 f'.length (fun i=>QA.enc (f'.getD i ⟨0,0⟩))
  fun i=>QA.enc (f'.getD i ⟨0,0⟩),moved'=moved',turned'=turned'])):=by kernel_rfl
noncomputable abbrev Yf:Code:=(QM Try.f53 0).1
noncomputable abbrev YV:Code:=(QM Try.f53 0).2
theorem QOa(C:List (List QB))(ac body:Code)(l:List QB)(has:Int→Bool)(many n:Int)(f:List QB)(moved turned:Int)(has':Int→Bool)(many' n':Int)(f':List QB)(moved' turned':Int):(tdU x C ac body l has many n f moved turned has' many' n' f' moved' turned').Ok:=by
 refine⟨(by decide:336≤360),rfl,rfl,?_,rfl,fun _ _=>rfl,fun nid h => ?_⟩
 ·intro q hq;simp only[UC.po,tdU,tdW,rwL,List.mem_cons,List.not_mem_nil,or_false]at hq;rcases hq with rfl|rfl|rfl|rfl|rfl|rfl|rfl|rfl|rfl|rfl<;>refine⟨rfl,rfl,rfl,?_⟩<;>first|exact fun _=>rfl|exact fun h=>absurd (show 360<336 from h) (by decide)|exact fun h=>absurd (show 361<336 from h) (by decide)
 ·have e0:=Xn 336 360 0 nid (by decide)
  have e1:=Xn 336 360 1 nid (by decide)
  simp only[UC.po,tdU,tdW,rwL,QAc,tdT,List.map_cons,List.map_nil,Blk.mapId,AV.mapId,AV.mapIdL,Nat.add_zero]at e0 e1 ⊢;rw[e0,e1];rfl
theorem QYE{x:QE}(hx:K7 x)(C:List (List QB))(hpos:0<x.scans.n){l:List QB}(hn:l.length=x.scans.n)(hl:∀ c∈l,K4 c)(s:TdS)(h:Int→Bool)(hgd:V8 x s):QQ Try.prog 77 (uFC (Zq x C Yf YV l h s (Jp x tdY l s h))):=by
 obtain⟨many,n,f,moved,turned⟩:=s;have hs:=hx.s;have hd:=hx.d.n9;have hgd:V8 x (many,n,f,moved,turned):=hgd;have hT:Qc (vW QS (tmU l f n moved turned (KI n l f) (mvL l (KI n l f) moved l.length) (tuL l (KI n l f) turned l.length))):=Q6.add (QSN l f n moved turned (by omega) (by omega) (fun q=>(hgd q).trans hn.symm))
 have fin:∀(s':TdS),XE (jO (tdU x C Yf YV l h many n f moved turned h s'.1 s'.2.1 s'.2.2.1 s'.2.2.2.1 s'.2.2.2.2)) (Jw (mkE Try.prog (vW QS (tmU l f n moved turned (KI n l f) (mvL l (KI n l f) moved l.length) (tuL l (KI n l f) turned l.length)))) (msN Try.prog (vW QS (tmU l f n moved turned (KI n l f) (mvL l (KI n l f) moved l.length) (tuL l (KI n l f) turned l.length)))) Try.f77 (tdU x C Yf YV l h many n f moved turned h s'.1 s'.2.1 s'.2.2.1 s'.2.2.2.1 s'.2.2.2.2))→QQ Try.prog 77 (uFC (tdU x C Yf YV l h many n f moved turned h s'.1 s'.2.1 s'.2.2.1 s'.2.2.2.1 s'.2.2.2.2)):=fun s' hd=>
  JZ (E:=mkE Try.prog (vW QS (tmU l f n moved turned (KI n l f) (mvL l (KI n l f) moved l.length) (tuL l (KI n l f) turned l.length)))) (QT hT) Try.func77 (by kernel_rfl) (by kernel_rfl) (QOa ..) (fun G h1 _=>He _ hT G h1) ⟨hd⟩
 have he:=QDM (x:=x) (l:=l) (by omega) (by omega)
 cases hb:X2 x l with
 | true=>
  rw[hb]at he;simp only[Jp,hb,Zq];refine fin (many,n,f,moved,turned) (Q0 (QPz QS x C l h many n f moved turned (KI n l f) (mvL l (KI n l f) moved l.length) (tuL l (KI n l f) turned l.length)) ?_);refine QI (fun _=>QF rfl (QI (fun _ => ?_) (fun q=>Bool.noConfusion (show true=false from he.symm.trans q)))) (fun q=>by rw[hn]at q;simp at q)
  refine⟨rfl,rfl,_,QWk x C l h many n f moved turned,?_⟩
  repeat' first|with_reducible refine QN ?_ ?_|exact trivial|with_reducible rfl|exact qlr _|exact qRr|exact QZ _ _ _ _|exact K1 _ _ _|refine And.intro ?_ ?_
 | false=>
  rw[hb]at he;simp only[Jp,hb,tdY,Zq];refine fin (tdY (many,n,f,moved,turned) l).1 (Q0 (QPz QS x C l h many n f moved turned (KI n l f) (mvL l (KI n l f) moved l.length) (tuL l (KI n l f) turned l.length)) ?_);refine QI (fun _=>QF rfl (QI (fun q=>Bool.noConfusion (show true=false from q.symm.trans he)) (fun _=>QF (Q4.2 ?_) ?_))) (fun q=>by rw[hn]at q;simp at q)
  ·repeat' first|with_reducible refine QN ?_ ?_|exact trivial|with_reducible rfl|exact qlr _|exact qRr|exact QZ _ _ _ _|refine And.intro ?_ ?_
  refine⟨rfl,rfl,_,QZU x C l h many n f moved turned (KI n l f) (mvL l (KI n l f) moved l.length) (tuL l (KI n l f) turned l.length) _ _ _ _ _,?_⟩
  repeat' first|with_reducible refine QN ?_ ?_|exact trivial|with_reducible rfl|exact qlr _|exact qRr|exact QZ _ _ _ _|exact K1 _ _ _|exact rfl|refine And.intro ?_ ?_
theorem Qc5{x:QE}(hx:K7 x){C:List (List QB)}{ac body:Code}{d:Nat}{cs l:List QB}(hl:l.length<1000)(hls:∀ c∈l,K4 c)(hcs:∀ c∈cs,K4 c)(IH:∀ c∈cs,∀ s h,V8 x s→QQ Try.prog 77 (uFC (Zq x C ac body (l++[c]) h s (Yk x C d l s h c))))(t:TdK):(qy Try.prog x C ac body d cs l t).Sound:=by
 unfold qy jJ;split
 ·rename_i hk;have hm:=jz (z:=(⟨0,0⟩:QB)) hk.1;refine Wu ((Q6.add (QCI x C _ hx (QAj (by simp) (by simp;omega) ?_))).add (IH _ hm _ _ hk.2))
  intro c hc;rcases List.mem_append.1 hc with h|h
  ·exact hls c h
  ·rw[List.mem_singleton.1 h];exact hcs _ hm
 ·exact Wu ((Q6.add (Zt (by kernel_rfl) _)).add (Zt (by kernel_rfl) _))
theorem Qcs{x:QE}(hx:K7 x){C:List (List QB)}(hC:Xt x C){ac body:Code}{d:Nat}{l:List QB}(hl:l.length+(d+1)=x.scans.n)(hls:∀ c∈l,K4 c)(IH:∀ c∈QJ C l.length,∀ s h,V8 x s→QQ Try.prog 77 (uFC (Zq x C ac body (l++[c]) h s (Yk x C d l s h c))))(s:TdS)(h:Int→Bool)(hgd:V8 x s){X:List (Prop×Ex×JSt)}(hX:∀ e J,qA x C ac body d (QJ C l.length) l (0,s,h) e J→∃ y∈X,y.1∧y.2.1=e∧y.2.2=J)(G:Ctx)(hrd:G.rd=none)(hG:G.n=360):
  KH (mkE Try.prog Qn) G (tdX Try.prog (tdJ x C ac body (QJ C l.length) l h s.1 s.2.1 s.2.2.1 s.2.2.2.1 s.2.2.2.2 0) X) (Qr Try.f77):=by
 have hs:=hx.s;refine Jd (body:=Qd Try.f77 0) (QT Q6) hrd (by kernel_rfl) ?_
 have hE:=fun t=>Qc5 hx (C:=C) (ac:=ac) (body:=body) (d:=d) (cs:=QJ C l.length) (l:=l) (by omega) hls (hC.s _) IH t
 refine zx (E0:=mkE Try.prog Qn) (E:=qy Try.prog x C ac body d (QJ C l.length) l) (H:=fun t=>hnd (qy Try.prog x C ac body d (QJ C l.length) l t) 0) (n0:=360) (s0:=(0,s,h)) (fun _=>rfl) hE (by omega) (fun t _=>Qz (hE t) 0 G _ hrd) (fun t _=>(by decide:360≤400)) ?_ (QX6 x C ac body d (QJ C l.length) l (hC.le _) (by omega) (by omega)) ⟨Nat.zero_le _,hgd⟩ hX
 intro t e J hr;unfold qA at hr;split at hr
 ·rw[hr.2];exact(by decide:360≤400)
 ·exact hr.elim
theorem QUV{x:QE}(hx:K7 x){C:List (List QB)}(hC:Xt x C){d:Nat}{l:List QB}(hl:l.length+(d+1)=x.scans.n)(hls:∀ c∈l,K4 c)(IH:∀ c∈QJ C l.length,∀ s h,V8 x s→QQ Try.prog 77 (uFC (Zq x C Yf YV (l++[c]) h s (Yk x C d l s h c))))(s:TdS)(h:Int→Bool)(hgd:V8 x s):QQ Try.prog 77 (uFC (Zq x C Yf YV l h s (onT x C tdY (d+1) l s h))):=by
 obtain⟨s',h',he⟩:=ZL (C:=C) (x:=x) (Y:=tdY) (fun _ _=>rfl) (d+1) l s h;rw[he];have hc:Jk (Kf x l (Yk x C d l)) (QJ C l.length) s h = .go s' h':=he;have hCn:=hC.n;refine JZ (E:=mkE Try.prog Qn) (QT Q6) Try.func77 (by kernel_rfl) (by kernel_rfl) (QOa ..) (Qcs hx hC hl hls IH s h hgd (X:=[(True,.exit 0,tdE Yf YV l h' s'.1 s'.2.1 s'.2.2.1 s'.2.2.2.1 s'.2.2.2.2)]) ?_) ⟨?_⟩
 ·intro e J hr;unfold qA at hr;simp only[List.drop_zero,hc]at hr;exact⟨_,List.mem_cons_self,trivial,hr.1.symm,hr.2.symm⟩
 ·refine Q0 (QUw x C (QJ C l.length) l h s.1 s.2.1 s.2.2.1 s.2.2.2.1 s.2.2.2.2 h' s'.1 s'.2.1 s'.2.2.1 s'.2.2.2.1 s'.2.2.2.2) ?_;refine QI (fun q=>by simp at q;omega) (fun _=>QF (by simp;omega) (QF (by simp;omega) ?_))
  repeat' first|refine Qb (p:=_=_) rfl ?_|refine Qb (p:=_≤_) (qlr _) ?_|refine Qb (p:=QC _ _ _ _) (qRr) ?_|refine Qb (p:=Kd _ _ _ _ _ _) (QZ _ _ _ _) ?_|refine Qb (p:=KA _ _ _ _ _ _) (K1 _ _ _) ?_
  refine KO fun _=>KK fun g=>⟨rfl,rfl,_,QUt x C l h s.1 s.2.1 s.2.2.1 s.2.2.2.1 s.2.2.2.2 h' s'.1 s'.2.1 s'.2.2.1 s'.2.2.2.1 s'.2.2.2.2,?_⟩
  repeat' first|with_reducible refine QN ?_ ?_|exact trivial|with_reducible rfl|exact qlr _|exact qRr|exact QZ _ _ _ _|exact K1 _ _ _|refine And.intro ?_ ?_
theorem QIs{x:QE}(hx:K7 x){C:List (List QB)}(hC:Xt x C)(hpos:0<x.scans.n):∀(d:Nat) (l:List QB) (s:TdS) (h:Int→Bool),l.length+d=x.scans.n→(∀ c∈l,K4 c)→V8 x s→QQ Try.prog 77 (uFC (Zq x C Yf YV l h s (onT x C tdY d l s h)))
 | 0,l,s,h,hn,hl,hgd=>QYE hx C hpos (by omega) hl s h hgd
 | d+1,l,s,h,hn,hl,hgd=>QUV hx hC (by omega) hl (fun c hc s h hgd=>QIs hx hC hpos d (l++[c]) s h (by simp;omega) (fun y hy=>by
   rcases List.mem_append.1 hy with q|q
   ·exact hl y q
   ·rw[List.mem_singleton.1 q];exact hC.s _ c hc) hgd) s h hgd
def plT:List AV:=[.ptr 48 0 0,.agg QDA,.fn (.func 51) [],.tup [],.ptr 128 0 0,.ptr 136 0 0,.ptr 144 0 0,.bool true false,.ptr 160 0 0,.tup [],.ptr 48 0 0,.fn (.func 76) [.ptr 184 0 0],.tup [],.tup [],.tup [],.tup [],.tup [],.tup [],.tup [],.tup [],.tup [],.tup []]
def QEt:List AV:=[.ptr 256 0 0,.ptr 184 0 0,.ptr 240 0 0,.ptr 224 0 0,.ptr 264 0 0]
def plR(C:List (List QB)):List (Nat×Blk):=
 [(264,.cellsR 0 34 [.fn (.func 77) QEt]),(240,.cellsR 0 63 [.map 232]),(224,.cellsR 0 123 [.yld 217]),(184,.cellsR 0 89 [.ptr 48 0 0]),(136,.cellsR 0 99 [.fn (.func 51) []]),(48,.cellsR 0 125 (srK 49 x C)),Y0 false 49 C]++VY 0 x
def plW(a:Nat)(has:Int→Bool)(many:Int)(f:Nat→Int):List (Nat×Blk):=
 [(256,.cells 0 38 [.slz a 0 l.length (.of 0)]),rwL a l,(232,.mpf .i64 (.int true .i64 0) has fun i => .int false .i64 (QH l i)),(217,.lp .ready none plT #[12] ac body),(160,.cells 0 3 [.int false .i64 many]),(128,.cells 1 95 (qW f))]
def QBW(C:List (List QB))(ac body:Code)(l:List QB)(has:Int→Bool)(many:Int)(f:Nat→Int):JSt:=
 ⟨5,[(0,.ptr 256 0 0),(1,.ptr 184 0 0),(2,.ptr 240 0 0),(3,.ptr 224 0 0),(4,.ptr 264 0 0)],plW ac body l 304 has many f++plR x C,312⟩
def plU(C:List (List QB))(ac body:Code)(l:List QB)(has:Int→Bool)(many:Int)(f:Nat→Int)(has':Int→Bool)(many':Int)(f':Nat→Int):UC:=
 ⟨296,QBW x C ac body l has many f,fun _ => .bool false true,fun m=>plW ac body l m has' many' f'⟩
def plJ(C:List (List QB))(ac body:Code)(cs l:List QB)(has:Int→Bool)(many:Int)(f:Nat→Int)(k:Nat):JSt:=
 ⟨98,[(0,.ptr 256 0 0),(1,.ptr 184 0 0),(2,.ptr 240 0 0),(3,.ptr 224 0 0),(4,.ptr 264 0 0),(48,.slz 328 0 cs.length (.of 0)),(49,.int false .i64 cs.length),(50,.int false .i64 k)],
  (328,.frz [.int .i64,.int .i64] cs.length fun i=>QA.enc (cs.getD i ⟨0,0⟩))::plW ac body l 320 has many f++plR x C,344⟩
def plE(f:Nat→Int):JSt:=⟨98,[],plW ac body l 320 has many f,344⟩
def GK:List Nat:=[256,232,217,160,128]
noncomputable abbrev QF6:List AV:=
  [.nilp,.ptr 98 0 0,.ptr 256 0 0,.ptr 184 0 0,.ptr 240 0 0,.ptr 224 0 0,.ptr 264 0 0,.slz 328 0 cs.length cO,vi (cs.length:Int),.int false .i64
  (i64.wrap ((k:Int)+1))]
noncomputable abbrev QAB:Nat×Blk:=
  (217,.lp LoopState.ready none plT (Array.mk [12]) ac body)
noncomputable abbrev QGM:Nat×Blk:=
  (128,.cells 1 95 [vi (f 0),vi (f 1),vi (f 2),vi (f 3),vi (f 4),vi (f 5),vi (f 6),
  .int false .i64 (f 7),vi (f 8),vi (f 9),vi (f 10),vi (f 11),vi (f 12)])
noncomputable abbrev zv:Nat×Blk:=
  (184,.cellsR 0 89 [.ptr 48 0 0])
noncomputable abbrev QHI:Nat×Blk:=
  (264,.cellsR 0 34 [.fn (Fn.func 77) [.ptr 256 0 0,.ptr 184 0 0,.ptr 240 0 0,.ptr 224 0 0,.ptr 264 0 0]])
noncomputable abbrev QEZ:Nat×Blk:=
  (328,.frz [.int .i64,.int .i64] cs.length fun i=>QA.enc (cs.getD i ⟨0,0⟩))
noncomputable abbrev Hc:Nat×Blk:=
  (48,.cellsR 0 125 [vi x.d.play.length,vi x.d.play.slack,vi x.d.play.loose,vi x.d.play.damp.lo,.int false .i64
  x.d.play.damp.hi,vi x.d.wide,vi x.d.high,.bool false x.d.turn,.slz 0 0 x.d.ps.n cO,.slz 1 0 x.scans.n cO,.slz 2 0 x.hang.n (Cap.of
  0),vi x.lost,vi x.foreign,.slz 49 0 C.length cO])
noncomputable abbrev HV:Nat×Blk:=
  (136,.cellsR 0 99 [.fn (Fn.func 51) []])
abbrev ZJ:List CK:=
  [.int .i64,.int .i64,.int .i64,.int .i64,.int .i64,.int .i64,.int .i64,.int .i64,.int .i64,.int .i64,.int .i64,.int .i64,.int .i64,.int .i64,.int .i64,.int .i64,.int
  .i64,.int .i64,.int .i64,.int .i64,.int .i64,.int .i64,.int .i64,.int .i64,.int .i64,.int .i64,.int .i64,.int .i64]
noncomputable abbrev zi:Nat×Blk:=
  (2,.frz [.int .i64,.int .i64,.int .i64,.int .i64] x.hang.n fun i=>QA.enc (x.hang.get i))
noncomputable abbrev Gy:Nat×Blk:=
  (49,.frz2 false 38 [.int .i64,.int .i64] C.length (fun i=>(QJ C i).length) fun i j=>QA.enc ((QJ C i).getD j ⟨0,0⟩))
noncomputable abbrev QMh(has:Int→Bool)(l:List QB)(many:Int)(x:QE):List (Nat×Blk):=
  [(256,.cells 0 38 [.slz 320 0 l.length cO]),(232,.mpf i64 (.int true .i64 0) has fun i => .int false .i64 (QH l i)),(QAB ac body),(160,.cells 0 3 [.int
  false .i64 many]),(QGM f),zv,(240,.cellsR 0 63 [.map 232]),(224,.cellsR 0 123 [.yld 217]),QHI,(QEZ cs),(320,.rowz true 56 [.int .i64,.int .i64] l.length fun i=>
  QA.enc (l.getD i ⟨0,0⟩)),(Hc C x),HV,(0,.frz ZJ x.d.ps.n fun i=>QA.enc (x.d.ps.get i)),(1,.frz ZJ x.scans.n fun i=>QA.enc (x.scans.get i)),(zi x),
  (Gy C)]
noncomputable abbrev QCQ:List AV:=
  [vi (cs.getD k ⟨0,0⟩).cell,vi (cs.getD k ⟨0,0⟩).turn]
noncomputable abbrev QQc(has:Int→Bool)(k:Nat)(l:List QB)(many:Int)(x:QE):List (Nat×Blk):=
  [(256,.cells 0 38 [.slz 952 0 (i64.wrap ((↑(l.length+1):Int)-1)).toNat cO]),(232,.mpf i64 (.int true .i64 0) (QW (cs.getD k ⟨0,0⟩).cell true
  (QW (cs.getD k ⟨0,0⟩).cell true has)) (Q9 (cs.getD k ⟨0,0⟩).cell (.int false .i64 (i64.wrap (toI (Bool.rec ((fun _=>(fun i => .int false .i64 (QH l i)) ((fun i=>
  QA.enc (cs.getD i ⟨0,0⟩)) ((k:Int).toNat+0) 0)) ()) ((fun _ => .int false .i64 (i64.wrap (toI ((fun i => .int false .i64 (QH l i)) ((fun i=>QA.enc (cs.getD i
  ⟨0,0⟩)) ((k:Int).toNat+0) 0))+1))) ()) (decide ((fun i=>QA.enc (cs.getD i ⟨0,0⟩)) ((k:Int).toNat+0) 0=(fun i=>QA.enc (cs.getD i ⟨0,0⟩)) ((k:Int).toNat+0)
  0)))-1))) (Q9 (cs.getD k ⟨0,0⟩).cell (.int false .i64 (i64.wrap (toI (.int false .i64 (QH l (cs.getD k ⟨0,0⟩).cell))+1))) fun i => .int false .i64 (QH l i)))),
  (QAB ac body),(160,.cells 0 3 [vi many]),(QGM f),zv,(240,.cellsR 0 63 [.map 232]),(224,.cellsR 0 123 [.yld 217]),QHI,(QEZ cs),(952,.rowz true 56
  [.int .i64,.int .i64] (l.length+1) (QY l.length (fun i=>QA.enc (l.getD i ⟨0,0⟩)) (QR [(QCQ cs k)] 0))),(Hc C x),HV,(0,.frz ZJ x.d.ps.n fun i=>QA.enc
  (x.d.ps.get i)),(1,.frz ZJ x.scans.n fun i=>QA.enc (x.scans.get i)),(zi x),(Gy C)]
noncomputable abbrev QOO(k:Nat)(l2:List QB):Nat×Blk:=
  (232,.mpf i64 (.int true .i64 0) (QW (cs.getD k ⟨0,0⟩).cell true has') (Q9 (cs.getD k ⟨0,0⟩).cell (.int false .i64 (i64.wrap (toI (.int false .i64 (QH l2
  (cs.getD k ⟨0,0⟩).cell))-1))) fun i => .int false .i64 (QH l2 i)))
noncomputable abbrev QLC:Nat×Blk:=
  (128,.cells 1 95 [vi (f' 0),vi (f' 1),vi (f' 2),vi (f' 3),vi (f' 4),vi (f' 5),.int false .i64
  (f' 6),vi (f' 7),vi (f' 8),vi (f' 9),vi (f' 10),vi (f' 11),vi (f' 12)])
noncomputable abbrev QOn(has':Int→Bool)(k:Nat)(l2:List QB)(many':Int)(x:QE):List (Nat×Blk):=
  [(256,.cells 0 38 [.slz 1064 0 (i64.wrap ((l2.length:Int)-1)).toNat cO]),(QOO cs has' k l2),(QAB ac body),(160,.cells 0 3 [vi many']),
  (QLC f'),zv,(240,.cellsR 0 63 [.map 232]),(224,.cellsR 0 123 [.yld 217]),QHI,(QEZ cs),(1064,.rowz true 56 [.int .i64,.int .i64] l2.length fun i=>QA.enc
  (l2.getD i ⟨0,0⟩)),(Hc C x),HV,(0,.frz ZJ x.d.ps.n fun i=>QA.enc (x.d.ps.get i)),(1,.frz ZJ x.scans.n fun i=>QA.enc (x.scans.get i)),(zi x),(Gy C)]
noncomputable abbrev QIk(has:Int→Bool)(l:List QB)(many:Int)(x:QE):List (Nat×Blk):=
  [(256,.cells 0 38 [.slz 320 0 l.length cO]),(232,.mpf i64 (.int true .i64 0) has fun i => .int false .i64 (QH l i)),(QAB ac body),(160,.cells 0 3 [.int
  false .i64 many]),(QGM f),(320,.rowz true 56 [.int .i64,.int .i64] l.length fun i=>QA.enc (l.getD i ⟨0,0⟩)),(Hc C x),HV,zv,(0,.frz ZJ x.d.ps.n fun i=>
  QA.enc (x.d.ps.get i)),(1,.frz ZJ x.scans.n fun i=>QA.enc (x.scans.get i)),(zi x),(Gy C)]
theorem QZZ(pb1 pb2:List Prop→Bool)(x:QE)(C:List (List QB))(ac body:Code)(cs l l2:List QB)(has has2:Int→Bool)(many:Int)(f:Nat→Int)(k:Nat)(has':Int→Bool)(many':Int)(f':Nat→Int)(g:Nat→Value):exec (mkC Try.prog (XO pb1 pb2 x C l2 (plU x C ac body l2 has2 many f has' many' f'))) (hnd (mkC Try.prog (XO pb1 pb2 x C l2 (plU x C ac body l2 has2 many f has' many' f')))
  0) (Qd Try.f77 0) (JSt.inst (plJ x C ac body cs l has many f k) g) (KS GK Zp) = .br (decide ((k:Int)<(cs.length:Int))) (.need (decide ((0:Int)≤(k:Int)∧(k :
  Int)<(cs.length:Int))&&decide (cs.length≤cs.length)) (.need (decide (k<cs.length)) (.all (fun(g0:Nat→Value) => .need (isI i64 (.int false .i64 (QH l
  (cs.getD k ⟨0,0⟩).cell))) (.br (decide (toI (.int false .i64 (QH l (cs.getD k ⟨0,0⟩).cell))≥bif (cs.getD k ⟨0,0⟩).cell == -2 then x.foreign else (1:Int))) (.leaf (.tup
  (QF6 cs k)) ((QMh C ac body cs f has l many x))) (.need (decide (l.length≤l.length)&&(true&&decide ((l.length+1+(l.length+1) / 4+192)*16≤281474976710656 ∧
  l.length+1≤9223372036854775807))) (.need (isI i64 (.int false .i64 (QH l (cs.getD k ⟨0,0⟩).cell))) (.need (pb1 ([0=0,0=0,0=0,l.length+1=l2.length,Cap.of
  0=cO,l2.length≤l.length+1,QC 2 l2.length (QY l.length (fun i=>QA.enc (l.getD i ⟨0,0⟩)) (QR [(QCQ cs k)] 0)) fun i=>QA.enc (l2.getD i ⟨0,0⟩),
  x.d.play.length=x.d.play.length,x.d.play.slack=x.d.play.slack,x.d.play.loose=x.d.play.loose,x.d.play.damp.lo=x.d.play.damp.lo,x.d.play.damp.hi=x.d.play.damp.hi,
  x.d.wide=x.d.wide,x.d.high=x.d.high,x.d.turn=x.d.turn,0=0,x.d.ps.n=x.d.ps.n,cO=cO,0=0,x.scans.n=x.scans.n,cO=cO,0=0,x.hang.n =
  x.hang.n,cO=cO,x.lost=x.lost,x.foreign=x.foreign,0=0,C.length=C.length,cO=cO,C.length=C.length,Kd 2 C.length (fun i=>(QJ C
  i).length) (fun i=>(QJ C i).length) (fun i j=>QA.enc ((QJ C i).getD j ⟨0,0⟩)) fun i j=>QA.enc ((QJ C i).getD j ⟨0,0⟩),x.d.ps.n≤x.d.ps.n,QC 28 x.d.ps.n (fun
  i=>QA.enc (x.d.ps.get i)) fun i=>QA.enc (x.d.ps.get i),x.scans.n≤x.scans.n,QC 28 x.scans.n (fun i=>QA.enc (x.scans.get i)) fun i=>QA.enc (x.scans.get i),
  x.hang.n≤x.hang.n,QC 4 x.hang.n (fun i=>QA.enc (x.hang.get i)) fun i=>QA.enc (x.hang.get i)])) (.br (!Kj x l2) (.need (isI i64 (Bool.rec ((fun _=>(fun i
  => .int false .i64 (QH l i)) ((fun i=>QA.enc (cs.getD i ⟨0,0⟩)) ((k:Int).toNat+0) 0)) ()) ((fun _ => .int false .i64 (i64.wrap (toI ((fun i => .int false .i64
  (QH l i)) ((fun i=>QA.enc (cs.getD i ⟨0,0⟩)) ((k:Int).toNat+0) 0))+1))) ()) (decide ((fun i=>QA.enc (cs.getD i ⟨0,0⟩)) ((k:Int).toNat+0) 0=(fun i=>QA.enc
  (cs.getD i ⟨0,0⟩)) ((k:Int).toNat+0) 0)))) (.need (decide ((0:Int)≤i64.wrap ((↑(l.length+1):Int)-1)∧(i64.wrap ((↑(l.length+1):Int)-1)).toNat ≤
  l.length+1-0)) (.leaf (.tup (QF6 cs k)) ((QQc C ac body cs f has k l many x))))) (.need (pb2 ([0=0,0=0,0=0,0=0,0=0,0=0,0=0,0=0,0=0,0=0,0=0,
  l.length+1=l2.length,cO=cO,l2.length≤l.length+1,QC 2 l2.length (QY l.length (fun i=>QA.enc (l.getD i ⟨0,0⟩)) (QR [(QCQ cs k)] 0)) fun i=>
  QA.enc (l2.getD i ⟨0,0⟩),KA (.int true .i64 0) (.int true .i64 0) (QW (cs.getD k ⟨0,0⟩).cell true has) has2 (Q9 (cs.getD k ⟨0,0⟩).cell (.int false .i64
  (i64.wrap (toI (.int false .i64 (QH l (cs.getD k ⟨0,0⟩).cell))+1))) fun i => .int false .i64 (QH l i)) fun i => .int false .i64 (QH l2 i),LoopState.ready =
  LoopState.ready,(none:Option Code)=none,Array.mk [12]=Array.mk [12],ac=ac,body=body,0=0,0=0,(0:Int)=0,(0:Int)=0,(0:Int)=0,(0:Int)=0,(0 :
  Int)=0,(0:Int)=0,(0:Int)=0,(0:Int)=0,(0:Int)=0,(0:Int)=0,(0:Int)=0,(0:Int)=0,(0:Int)=0,Fn.func 51=Fn.func 51,0=0,0=0,0=0,0 =
  0,0=0,0=0,false=false,0=0,0=0,0=0,0=0,Fn.func 76=Fn.func 76,0=0,0=0,many=many,f 0=f 0,f 1=f 1,f 2=f 2,f 3=f 3,f 4=f 4,f 5=f 5,f 6
  = f 6,f 7=f 7,f 8=f 8,f 9=f 9,f 10=f 10,f 11=f 11,f 12=f 12,Fn.func 77=Fn.func 77,0=0,0=0,0=0,0=0,0=0,0=0,0=0,0=0,0=0,0=0,0=0,
  0=0,Fn.func 51=Fn.func 51,x.d.play.length=x.d.play.length,x.d.play.slack=x.d.play.slack,x.d.play.loose=x.d.play.loose,x.d.play.damp.lo=x.d.play.damp.lo,
  x.d.play.damp.hi=x.d.play.damp.hi,x.d.wide=x.d.wide,x.d.high=x.d.high,x.d.turn=x.d.turn,0=0,x.d.ps.n=x.d.ps.n,cO=cO,0=0,x.scans.n=x.scans.n,
  cO=cO,0=0,x.hang.n=x.hang.n,cO=cO,x.lost=x.lost,x.foreign=x.foreign,0=0,C.length=C.length,cO=cO,C.length=C.length,
  Kd 2 C.length (fun i=>(QJ C i).length) (fun i=>(QJ C i).length) (fun i j=>QA.enc ((QJ C i).getD j ⟨0,0⟩)) fun i j=>QA.enc ((QJ C i).getD j ⟨0,0⟩),
  x.d.ps.n≤x.d.ps.n,QC 28 x.d.ps.n (fun i=>QA.enc (x.d.ps.get i)) fun i=>QA.enc (x.d.ps.get i),x.scans.n≤x.scans.n,QC 28 x.scans.n (fun i=>QA.enc
  (x.scans.get i)) fun i=>QA.enc (x.scans.get i),x.hang.n≤x.hang.n,QC 4 x.hang.n (fun i=>QA.enc (x.hang.get i)) fun i=>QA.enc (x.hang.get i)])) (.need (isI
  i64 (.int false .i64 (QH l2 (cs.getD k ⟨0,0⟩).cell))) (.need (decide ((0:Int)≤i64.wrap ((l2.length:Int)-1)∧(i64.wrap ((l2.length:Int) -
  1)).toNat≤l2.length-0)) (.br (false) (.leaf (.tup [.nili,.ptr 98 0 0,.bool true false]) ([(256,.cells 0 38 [.slz 1064 0 (i64.wrap ((l2.length:Int)-1)).toNat
  cO]),(QOO cs has' k l2),(QAB ac body),(160,.cells 0 3 [vi many']),(QLC f'),(1064,.rowz true 56 [.int .i64,.int .i64] l2.length fun i=>QA.enc
  (l2.getD i ⟨0,0⟩)),(Hc C x),HV,zv,(0,.frz ZJ x.d.ps.n fun i=>QA.enc (x.d.ps.get i)),(1,.frz ZJ x.scans.n fun i=>QA.enc (x.scans.get i)),(zi x),(Gy
  C)])) (.leaf (.tup (QF6 cs k)) ((QOn C ac body cs f' has' k l2 many' x)))))))))))))))) (.leaf (.tup [.ptr 0 0 0,.ptr 98 0 0]) ((QIk C ac body f has l many x))):=by kernel_rfl
noncomputable abbrev QFi:List AV:=
  [.ptr 256 0 0,.ptr 184 0 0,.ptr 240 0 0,.ptr 224 0 0,.ptr 264 0 0,.slz 328 0 cs.length cO,vi (cs.length:Int),vi (i64.wrap ((k :
  Int)+1))]
abbrev Xx:List Prop:=
  [0=0,0=0,0=0,0=0,0=0,0=0]
abbrev QGH(k':Nat):List Prop:=
  [0=0,0=0,0=0,0=0,0=0,cs.length=cs.length,cO=cO,(cs.length:Int)=(cs.length:Int),i64.wrap ((k:Int)+1)=(k':Int),cs.length ≤
  cs.length,QC 2 cs.length (fun i=>QA.enc (cs.getD i ⟨0,0⟩)) fun i=>QA.enc (cs.getD i ⟨0,0⟩),0=0]
abbrev QPJ(l:List QB):List Prop:=
  [l.length=l.length,cO=cO,l.length≤l.length,QC 2 l.length (fun i=>QA.enc (l.getD i ⟨0,0⟩)) fun i=>QA.enc (l.getD i ⟨0,0⟩),KA (.int true .i64 0)
  (.int true .i64 0) has has (fun i => .int false .i64 (QH l i)) fun i => .int false .i64 (QH l i),LoopState.ready=LoopState.ready,(none:Option Code)=none,Array.mk [12] =
  Array.mk [(12:Tmp)],ac=ac,body=body,0=0,0=0]
abbrev QAV:List Prop:=
  [(0:Int)=0,(0:Int)=0,(0:Int)=0,(0:Int)=0,(0:Int)=0,(0:Int)=0,(0:Int)=0,(0:Int)=0]
abbrev QCo:List Prop:=
  [(0:Int)=0,(0:Int)=0,(0:Int)=0,(0:Int)=0]
abbrev QFr:List Prop:=
  [0=0,0=0,0=0,Fn.func (76:FuncId)=Fn.func (76:FuncId),0=0,0=0,many=many,f 0=f 0,f 1=f 1,f 2=f 2,f 3=f 3,f 4=f 4,f 5=f 5,f 6=f 6,f 7=f
  7,f 8=f 8,f 9=f 9,f 10=f 10,f 11=f 11,f 12=f 12]
abbrev QG6:List Prop:=
  [x.d.play.length=x.d.play.length,x.d.play.slack=x.d.play.slack,x.d.play.loose=x.d.play.loose,x.d.play.damp.lo=x.d.play.damp.lo,x.d.play.damp.hi=x.d.play.damp.hi,
  x.d.wide=x.d.wide,x.d.high=x.d.high,x.d.turn=x.d.turn,0=0,x.d.ps.n=x.d.ps.n,cO=cO,0=0,x.scans.n=x.scans.n,cO=cO,0=0,x.hang.n =
  x.hang.n,cO=cO,x.lost=x.lost,x.foreign=x.foreign,0=0,C.length=C.length,cO=cO,C.length=C.length,Kd 2 C.length (fun i=>(QJ C
  i).length) (fun i=>(QJ C i).length) (fun i j=>QA.enc ((QJ C i).getD j ⟨0,0⟩)) fun i j=>QA.enc ((QJ C i).getD j ⟨0,0⟩),x.d.ps.n≤x.d.ps.n,QC 28 x.d.ps.n (fun
  i=>QA.enc (x.d.ps.get i)) fun i=>QA.enc (x.d.ps.get i),x.scans.n≤x.scans.n,QC 28 x.scans.n (fun i=>QA.enc (x.scans.get i)) fun i=>QA.enc (x.scans.get i),
  x.hang.n≤x.hang.n,QC 4 x.hang.n (fun i=>QA.enc (x.hang.get i)) fun i=>QA.enc (x.hang.get i)]
theorem QXS(C:List (List QB))(ac body:Code)(cs l:List QB)(has:Int→Bool)(many:Int)(f:Nat→Int)(k k':Nat):QK 312 (QFi cs k) ((QMh C ac body cs f has l many x)) (plJ x C ac body cs l has many f k')=(some (Xx++(QGH cs k k')++(QPJ ac body has l)++QAV++QCo++[(0 :
  Int)=0,Fn.func (51:FuncId)=Fn.func (51:FuncId)]++Xx++[false=false,0=0]++(QFr f many)++[Fn.func 77=Fn.func (77:FuncId)]++Xx++Xx++[Fn.func
  51=Fn.func (51:FuncId)]++(QG6 C x))):=by kernel_rfl
theorem Qcr(x:QE)(C:List (List QB))(ac body:Code)(cs l:List QB)(has h':Int→Bool)(many:Int)(f:Nat→Int)(k k':Nat):QK 312 (QFi cs k) ((QQc C ac body cs f has k l many x)) (plJ x C ac body cs l h' many f k')=(some (Xx++(QGH cs k k')++[(i64.wrap ((↑(l.length+1):Int) -
  1)).toNat=l.length,cO=cO,l.length≤l.length+1,QC 2 l.length (QY l.length (fun i=>QA.enc (l.getD i ⟨0,0⟩)) (QR [(QCQ cs k)] 0)) fun i=>
  QA.enc (l.getD i ⟨0,0⟩),KA (.int true .i64 0) (.int true .i64 0) (QW (cs.getD k ⟨0,0⟩).cell true (QW (cs.getD k ⟨0,0⟩).cell true has)) h' (Q9 (cs.getD k ⟨0,0⟩).cell
  (.int false .i64 (i64.wrap (toI (Bool.rec ((fun x=>(fun i => .int false .i64 (QH l i)) ((fun i=>QA.enc (cs.getD i ⟨0,0⟩)) ((k:Int).toNat+0) 0)) ()) ((fun x=>
  .int false .i64 (i64.wrap (toI ((fun i => .int false .i64 (QH l i)) ((fun i=>QA.enc (cs.getD i ⟨0,0⟩)) ((k:Int).toNat+0) 0))+1))) ()) (decide ((fun i=>
  QA.enc (cs.getD i ⟨0,0⟩)) ((k:Int).toNat+0) 0=(fun i=>QA.enc (cs.getD i ⟨0,0⟩)) ((k:Int).toNat+0) 0)))-1))) (Q9 (cs.getD k ⟨0,0⟩).cell (.int false .i64
  (i64.wrap (toI (.int false .i64 (QH l (cs.getD k ⟨0,0⟩).cell))+1))) fun i => .int false .i64 (QH l i))) fun i => .int false .i64 (QH l i),LoopState.ready =
  LoopState.ready,(none:Option Code)=none,Array.mk [12]=Array.mk [(12:Tmp)],ac=ac,body=body,0=0,0=0]++QAV++QCo++[(0:Int)=0,Fn.func (51:FuncId) =
  Fn.func (51:FuncId)]++Xx++[false=false,0=0]++(QFr f many)++[Fn.func 77=Fn.func (77:FuncId)]++Xx++Xx++[Fn.func 51=Fn.func (51:FuncId)] ++
  (QG6 C x))):=by kernel_rfl
theorem Qb5(C:List (List QB))(ac body:Code)(cs l l2:List QB)(k:Nat)(has' h':Int→Bool)(many':Int)(f':Nat→Int)(k':Nat):QK 312 (QFi cs k) ((QOn C ac body cs f' has' k l2 many' x)) (plJ x C ac body cs l h' many' f' k')=(some (Xx++(QGH cs k k')++[(i64.wrap ((l2.length:Int) -
  1)).toNat=l.length,cO=cO,l.length≤l2.length,QC 2 l.length (fun i=>QA.enc (l2.getD i ⟨0,0⟩)) fun i=>QA.enc (l.getD i ⟨0,0⟩),KA (.int true .i64
  0) (.int true .i64 0) (QW (cs.getD k ⟨0,0⟩).cell true has') h' (Q9 (cs.getD k ⟨0,0⟩).cell (.int false .i64 (i64.wrap (toI (.int false .i64 (QH l2 (cs.getD k ⟨0,
  0⟩).cell))-1))) fun i => .int false .i64 (QH l2 i)) fun i => .int false .i64 (QH l i),LoopState.ready=LoopState.ready,(none:Option Code)=none,Array.mk [12]=Array.mk
  [(12:Tmp)],ac=ac,body=body,0=0,0=0]++QAV++QCo++[(0:Int)=0,Fn.func (51:FuncId)=Fn.func (51:FuncId)]++Xx++[false=false,0=0,0=0,0 =
  0,0=0,Fn.func (76:FuncId)=Fn.func (76:FuncId),0=0,0=0,many'=many',f' 0=f' 0,f' 1=f' 1,f' 2=f' 2,f' 3=f' 3,f' 4=f' 4,f' 5=f' 5,f' 6=f' 6,f' 7
  = f' 7,f' 8=f' 8,f' 9=f' 9,f' 10=f' 10,f' 11=f' 11,f' 12=f' 12,Fn.func 77=Fn.func (77:FuncId)]++Xx++Xx++[Fn.func 51=Fn.func (51:FuncId)] ++
  (QG6 C x))):=by kernel_rfl
theorem QRp(C:List (List QB))(ac body:Code)(l:List QB)(has:Int→Bool)(many:Int)(f:Nat→Int):QK 312 [] ((QIk C ac body f has l many x)) (plE ac body l has many f)=(some ([0=0]++(QPJ ac body has l)++QAV++QCo++[(0:Int)=0,Fn.func (51:FuncId) =
  Fn.func (51:FuncId)]++Xx++[false=false,0=0]++(QFr f many))):=by kernel_rfl
abbrev PlS:=Int×(Nat→Int)
def plY(s:PlS)(l:List QB):PlS×Bool:=((i64.wrap (s.1+1),plL l s.2 l.length),true)
def V0(x:QE)(s:PlS):Prop:=True
theorem Qai{x:QE}{s:PlS}{l:List QB}(_:V0 x s)(_:l.length=x.scans.n):V0 x (plY s l).1:=trivial
def Zg(C:List (List QB))(ac body:Code)(l:List QB)(has:Int→Bool)(s:PlS):Res PlS→UC
 | .go s' h'=>plU x C ac body l has s.1 s.2 h' s'.1 s'.2
 | .stop s' h'=>plU x C ac body l has s.1 s.2 h' s'.1 s'.2
abbrev PlK:=Nat×PlS×(Int→Bool)
open Classical in
noncomputable def qp(s:PlS):List Prop→Bool:=if k<cs.length∧V0 x s then QS else fun _=>false
def YS(C:List (List QB))(d:Nat)(l:List QB)(s:PlS)(h:Int→Bool)(c:QB):Res PlS:=onT x C plY d (l++[c]) s h
noncomputable def ql(P:Program)(x:QE)(C:List (List QB))(ac body:Code)(d:Nat)(cs l:List QB)(t:PlK):Env:=
 mkC P (XO (qp x cs t.1 t.2.1) (qp x cs t.1 t.2.1) x C (l++[cs.getD t.1 ⟨0,0⟩]) (Zg x C ac body (l++[cs.getD t.1 ⟨0,0⟩]) (QW (cs.getD t.1 ⟨0,0⟩).cell true t.2.2) t.2.1 (YS x C d l t.2.1 (QW (cs.getD t.1 ⟨0,0⟩).cell true t.2.2) (cs.getD t.1 ⟨0,0⟩))))
def WN(C:List (List QB))(ac body:Code)(d:Nat)(cs l:List QB)(t:PlK)(e:Ex)(J:JSt):Prop:=match Jk (Kf x l (YS x C d l)) (cs.drop t.1) t.2.1 t.2.2 with
 | .go s h=>e = .exit 0∧J=plE ac body l h s.1 s.2
 | .stop _ _=>False
set_option maxHeartbeats 1600000 in
theorem QbF(C:List (List QB))(ac body:Code)(d:Nat)(cs l:List QB)(hcs:cs.length≤1000)(hl:l.length≤1000)(hn:l.length+1+d=x.scans.n):jN (fun t:PlK=>plJ x C ac body cs l t.2.2 t.2.1.1 t.2.1.2 t.1) (fun t=>t.1≤cs.length∧V0 x t.2.1) (fun t=>cs.length-t.1) (WN x C ac body d cs l) 312 Zp GK (ql Try.prog x C ac body d cs l) (fun t=>hnd (ql Try.prog x C ac body d cs l t) 0) (Qd Try.f77 0):=by
 refine⟨fun t g hk => ?_⟩;obtain⟨k,⟨many,f⟩,has⟩:=t;obtain⟨hk,hgd⟩:=hk;have hk:k≤cs.length:=hk;have hgd:V0 x (many,f):=hgd;obtain⟨s',h',hrec⟩:=ZL (C:=C) (x:=x) (Y:=plY) (fun _ _=>rfl) d (l++[cs.getD k ⟨0,0⟩]) (many,f) (QW (cs.getD k ⟨0,0⟩).cell true has);have hgd':V0 x s':=QC0 (G:=V0 x) (fun s l hs hn=>Qai hs hn) d _ _ _ (by simp;omega) hgd hrec
 unfold ql;simp only;have hrec:YS x C d l (many,f) (QW (cs.getD k ⟨0,0⟩).cell true has) (cs.getD k ⟨0,0⟩) = .go s' h':=hrec;rw[hrec];refine Q0 (QZZ (qp x cs k (many,f)) (qp x cs k (many,f)) x C ac body cs l (l++[cs.getD k ⟨0,0⟩]) has (QW (cs.getD k ⟨0,0⟩).cell true has) many f k h' s'.1 s'.2 g) ?_;refine QI (fun h => ?_) (fun h => ?_)
 ·have h:k<cs.length:=by have:=qdt h;omega
  have hw:=K6 h hcs;have hpb:qp x cs k (many,f)=QS:=by unfold qp;rw[if_pos ⟨h,hgd⟩]
  rw[hpb];have step:=HI (f:=Kf x l (YS x C d l)) h (many,f) has
  have next:∀{s2:PlS} {h2:Int→Bool},Kf x l (YS x C d l) (many,f) has (cs.getD k ⟨0,0⟩) = .go s2 h2→∀ e J,WN x C ac body d cs l (k+1,s2,h2) e J→WN x C ac body d cs l (k,(many,f),has) e J:=by
   intro s2 h2 he e J hr;unfold WN at hr ⊢;simp only at hr ⊢;rw[step,he];exact hr
  have one:∀ b,JG x l (cs.getD k ⟨0,0⟩)=b→Kf x l (YS x C d l) (many,f) has (cs.getD k ⟨0,0⟩)=match b with
    | true => .go (many,f) has
    | false=>match Kj x (l++[cs.getD k ⟨0,0⟩])with
     | false => .go (many,f) (QW (cs.getD k ⟨0,0⟩).cell true (QW (cs.getD k ⟨0,0⟩).cell true has))
     | true => .go s' (QW (cs.getD k ⟨0,0⟩).cell true h'):=by
   intro b hb;unfold Kf;rw[hb,hrec];cases b
   ·cases Kj x (l++[cs.getD k ⟨0,0⟩])<;>rfl
   ·rfl
  refine QF (by simp;omega) (QF (by simp;omega) (KK fun _ => ?_))
  refine QF rfl (QI (fun hf => ?_) (fun hf=>QF (by simp;omega) (QF rfl (QF (Q4.2 ?_) (QI (fun hq => ?_) (fun hq => ?_))))))
  ·have hf:JG x l (cs.getD k ⟨0,0⟩)=true:=XB.trans hf;refine⟨(k+1,(many,f),has),⟨h,hgd⟩,by show cs.length-(k+1)<cs.length-k;omega,next (one _ hf),rfl,rfl,_,QXS x C ac body cs l has many f k (k+1),?_⟩
   repeat' first|with_reducible refine QN ?_ ?_|exact trivial|with_reducible rfl|exact qlr _|exact qRr|exact QZ _ _ _ _|exact K1 _ _ _|exact hw|refine And.intro ?_ ?_
  ·repeat' first|with_reducible refine QN ?_ ?_|exact trivial|with_reducible rfl|exact qlr _|exact qRr|exact QZ _ _ _ _|exact ZD _ _|exact ZG _ _|exact Y2 _ _ _ rfl|refine And.intro ?_ ?_
  ·have hf:JG x l (cs.getD k ⟨0,0⟩)=false:=XB.trans hf;have hq:Kj x (l++[cs.getD k ⟨0,0⟩])=false:=by simpa using hq
   have hp:=Hr l hl;have hp1:i64.wrap (((l.length+1:Nat):Int)-1)=l.length:=(w64 (by omega) (by omega)).trans (by omega)
   have ho:=one _ hf;rw[hq]at ho;refine QF (by simp[isI]) (QF (by rw[hp1];simp) ?_)
   refine⟨(k+1,(many,f),QW (cs.getD k ⟨0,0⟩).cell true (QW (cs.getD k ⟨0,0⟩).cell true has)),⟨h,hgd⟩,by show cs.length-(k+1)<cs.length-k;omega,next ho,rfl,rfl,_,Qcr x C ac body cs l has (QW (cs.getD k ⟨0,0⟩).cell true (QW (cs.getD k ⟨0,0⟩).cell true has)) many f k (k+1),?_⟩
   repeat' first|with_reducible refine QN ?_ ?_|exact trivial|with_reducible rfl|exact qlr _|exact qRr|exact QZ _ _ _ _|exact hw|exact hp|exact Nat.le_succ _|exact H4 _ _|exact zq _ _ _ hl (by simp[toI];rfl) _|refine And.intro ?_ ?_
  ·have hf:JG x l (cs.getD k ⟨0,0⟩)=false:=XB.trans hf;have hq:Kj x (l++[cs.getD k ⟨0,0⟩])=true:=by simpa using hq
   have hp:=HX l (cs.getD k ⟨0,0⟩) hl
   have hp1:i64.wrap (((l++[cs.getD k ⟨0,0⟩]).length:Int)-1)=l.length:=by
    rw[List.length_append,List.length_singleton];exact(w64 (by omega) (by omega)).trans (by omega)
   have ho:=one _ hf;rw[hq]at ho;refine QF (Q4.2 ?_) (QF rfl (QF (by rw[hp1];simp) (QI (fun q=>by cases q) (fun _ => ?_))))
   ·repeat' first|with_reducible refine QN ?_ ?_|exact trivial|with_reducible rfl|exact qlr _|exact qRr|exact QZ _ _ _ _|exact ZD _ _|exact ZG _ _|exact Y2 _ _ _ rfl|exact H9 _ _ hl rfl _|refine And.intro ?_ ?_
   refine⟨(k+1,s',QW (cs.getD k ⟨0,0⟩).cell true h'),⟨h,hgd'⟩,by show cs.length-(k+1)<cs.length-k;omega,next ho,rfl,rfl,_,Qb5 x C ac body cs l (l++[cs.getD k ⟨0,0⟩]) k h' (QW (cs.getD k ⟨0,0⟩).cell true h') s'.1 s'.2 (k+1),?_⟩
   repeat' first|with_reducible refine QN ?_ ?_|exact trivial|with_reducible rfl|exact qlr _|exact qRr|exact QZ _ _ _ _|exact hw|exact hp|exact(by simp:l.length≤(l++[cs.getD k ⟨0,0⟩]).length)|exact Gb _ _|exact Gq _ _ hl rfl _|refine And.intro ?_ ?_
 ·have h:cs.length≤k:=by have:=of_decide_eq_false h;omega
  have he:=Gk (f:=Kf x l (YS x C d l)) h (many,f) has;refine⟨plE ac body l has many f,by unfold WN;simp only[he,and_self],rfl,rfl,_,QRp x C ac body l has many f,?_⟩
  repeat' first|with_reducible refine QN ?_ ?_|exact trivial|with_reducible rfl|exact qlr _|exact qRr|exact QZ _ _ _ _|exact K1 _ _ _|refine And.intro ?_ ?_
end Go.Proofs.Ytbpffdkemeoajaa
