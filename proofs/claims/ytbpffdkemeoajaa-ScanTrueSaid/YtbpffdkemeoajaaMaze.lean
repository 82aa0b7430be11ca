/- - -/
import Derived.Test.YtbpffdkemeoajaaMazd
open Go.IntKind (i64)
set_option maxRecDepth 100000
namespace Go.Proofs.Ytbpffdkemeoajaa
open Go.SX
def Wo(m:Int)(l f:List QB):List QB:=match m==1 with
 | true=>l
 | false=>f
def Wa(m:Int)(l g:List QB):List QB:=match m==1 with
 | true=>g
 | false=>match m==2 with
  | true=>l
  | false=>g
abbrev TrS:=Int×List QB×List QB
def trY(s:TrS)(l:List QB):TrS×Bool:=((i64.wrap (s.1+1),Wo (i64.wrap (s.1+1)) l s.2.1,Wa (i64.wrap (s.1+1)) l s.2.2),!(i64.wrap (s.1+1)==100))
variable {d:Nat}(x:QE)(C:List (List QB))(l:List QB)(has:Int→Bool)(many:Int)(f g:List QB)(has':Int→Bool)(f' g':List QB)(many':Int)
def Ys(ac body:Code)(l:List QB)(has:Int→Bool)(s:TrS):Res TrS→UC
 | .go s' h'=>trU x C ac body l has s.1 s.2.1 s.2.2 h' s'.1 s'.2.1 s'.2.2
 | .stop s' h'=>trV x C ac body l has s.1 s.2.1 s.2.2 h' s'.1 s'.2.1 s'.2.2
abbrev TrK:=Nat×TrS×(Int→Bool)
def Vx(d:Nat)(l:List QB)(s:TrS)(h:Int→Bool)(c:QB):Res TrS:=onT x C trY d (l++[c]) s h
noncomputable def jE(P:Program)(x:QE)(C:List (List QB))(ac body:Code)(d:Nat)(cs l:List QB)(t:TrK):Env:=
 mkC P (XO (kPb cs t.1) (kPb cs t.1) x C (l++[cs.getD t.1 ⟨0,0⟩]) (Ys x C ac body (l++[cs.getD t.1 ⟨0,0⟩]) (QW (cs.getD t.1 ⟨0,0⟩).cell true t.2.2) t.2.1 (Vx x C d l t.2.1 (QW (cs.getD t.1 ⟨0,0⟩).cell true t.2.2) (cs.getD t.1 ⟨0,0⟩))))
def V7(ac body:Code)(d:Nat)(cs l:List QB)(t:TrK)(e:Ex)(J:JSt):Prop:=match Jk (Kf x l (Vx x C d l)) (cs.drop t.1) t.2.1 t.2.2 with
 | .go s h=>e = .exit 0∧J=trE x ac body l h s.1 s.2.1 s.2.2
 | .stop s h=>e = .ret∧J=trF x ac body l h s.1 s.2.1 s.2.2
set_option maxHeartbeats 3200000 in
theorem QVk(ac body:Code)(d:Nat)(cs l:List QB)(hcs:cs.length≤1000)(hl:l.length≤1000):jN (fun t:TrK=>trJ x C ac body cs l t.2.2 t.2.1.1 t.2.1.2.1 t.2.1.2.2 t.1) (fun t=>t.1≤cs.length) (fun t=>cs.length-t.1) (V7 x C ac body d cs l) 272 Zp qv (jE Try.prog x C ac body d cs l) (fun t=>hnd (jE Try.prog x C ac body d cs l t) 0) (Qd Try.f77 0):=by
 refine⟨fun t g0 hk => ?_⟩;obtain⟨k,⟨many,f,g⟩,has⟩:=t;have hk:k≤cs.length:=hk;unfold jE;simp only;cases hrec:Vx x C d l (many,f,g) (QW (cs.getD k ⟨0,0⟩).cell true has) (cs.getD k ⟨0,0⟩)with
 | go s' h'=>
  refine Q0 (Qc2 (kPb cs k) (kPb cs k) x C ac body cs l (l++[cs.getD k ⟨0,0⟩]) has (QW (cs.getD k ⟨0,0⟩).cell true has) many f g k h' s'.1 s'.2.1 s'.2.2 g0) ?_;refine QI (fun h => ?_) (fun h => ?_)
  ·have h:k<cs.length:=by have:=qdt h;omega
   have hw:=K6 h hcs;have hpb:kPb cs k=QS:=by unfold kPb;rw[decide_eq_true h]
   rw[hpb];have step:=HI (f:=Kf x l (Vx x C d l)) h (many,f,g) has
   have next:∀{s2:TrS} {h2:Int→Bool},Kf x l (Vx x C d l) (many,f,g) has (cs.getD k ⟨0,0⟩) = .go s2 h2→∀ e J,V7 x C ac body d cs l (k+1,s2,h2) e J→V7 x C ac body d cs l (k,(many,f,g),has) e J:=by
    intro s2 h2 he e J hr;unfold V7 at hr ⊢;simp only at hr ⊢;rw[step,he];exact hr
   have one:∀ b,JG x l (cs.getD k ⟨0,0⟩)=b→Kf x l (Vx x C d l) (many,f,g) has (cs.getD k ⟨0,0⟩)=match b with
     | true => .go (many,f,g) has
     | false=>match Kj x (l++[cs.getD k ⟨0,0⟩])with
      | false => .go (many,f,g) (QW (cs.getD k ⟨0,0⟩).cell true (QW (cs.getD k ⟨0,0⟩).cell true has))
      | true => .go s' (QW (cs.getD k ⟨0,0⟩).cell true h'):=by
    intro b hb;unfold Kf;rw[hb,hrec];cases b
    ·cases Kj x (l++[cs.getD k ⟨0,0⟩])<;>rfl
    ·rfl
   refine QF (by simp;omega) (QF (by simp;omega) (KK fun _ => ?_))
   refine QF rfl (QI (fun hf => ?_) (fun hf=>QF (by simp;omega) (QF rfl (QF (Q4.2 ?_) (QI (fun hq => ?_) (fun hq => ?_))))))
   ·have hf:JG x l (cs.getD k ⟨0,0⟩)=true:=XB.trans hf;refine⟨(k+1,(many,f,g),has),h,by show cs.length-(k+1)<cs.length-k;omega,next (one _ hf),rfl,rfl,_,QQr x C ac body cs l has many f g k (k+1),?_⟩
    repeat' first|with_reducible refine QN ?_ ?_|exact trivial|with_reducible rfl|exact qlr _|exact qRr|exact QZ _ _ _ _|exact K1 _ _ _|exact hw|refine And.intro ?_ ?_
   ·repeat' first|with_reducible refine QN ?_ ?_|exact trivial|with_reducible rfl|exact qlr _|exact qRr|exact QZ _ _ _ _|exact ZD _ _|exact ZG _ _|exact Y2 _ _ _ rfl|refine And.intro ?_ ?_
   ·have hf:JG x l (cs.getD k ⟨0,0⟩)=false:=XB.trans hf;have hq:Kj x (l++[cs.getD k ⟨0,0⟩])=false:=by simpa using hq
    have hp:=Hr l hl;have hp1:i64.wrap (((l.length+1:Nat):Int)-1)=l.length:=(w64 (by omega) (by omega)).trans (by omega)
    have ho:=one _ hf;rw[hq]at ho;refine QF (by simp[isI]) (QF (by rw[hp1];simp) ?_)
    refine⟨(k+1,(many,f,g),QW (cs.getD k ⟨0,0⟩).cell true (QW (cs.getD k ⟨0,0⟩).cell true has)),h,by show cs.length-(k+1)<cs.length-k;omega,next ho,rfl,rfl,_,QJq x C ac body cs l has (QW (cs.getD k ⟨0,0⟩).cell true (QW (cs.getD k ⟨0,0⟩).cell true has)) many f g k (k+1),?_⟩
    repeat' first|with_reducible refine QN ?_ ?_|exact trivial|with_reducible rfl|exact qlr _|exact qRr|exact QZ _ _ _ _|exact hw|exact hp|exact Nat.le_succ _|exact H4 _ _|exact zq _ _ _ hl (by simp[toI];rfl) _|refine And.intro ?_ ?_
   ·have hf:JG x l (cs.getD k ⟨0,0⟩)=false:=XB.trans hf;have hq:Kj x (l++[cs.getD k ⟨0,0⟩])=true:=by simpa using hq
    have hp:=HX l (cs.getD k ⟨0,0⟩) hl
    have hp1:i64.wrap (((l++[cs.getD k ⟨0,0⟩]).length:Int)-1)=l.length:=by
     rw[List.length_append,List.length_singleton];exact(w64 (by omega) (by omega)).trans (by omega)
    have ho:=one _ hf;rw[hq]at ho;refine QF (Q4.2 ?_) (QF rfl (QF (by rw[hp1];simp) (QI (fun q=>by cases q) (fun _ => ?_))))
    ·repeat' first|with_reducible refine QN ?_ ?_|exact trivial|with_reducible rfl|exact qlr _|exact qRr|exact QZ _ _ _ _|exact ZD _ _|exact ZG _ _|exact Y2 _ _ _ rfl|exact H9 _ _ hl rfl _|refine And.intro ?_ ?_
    refine⟨(k+1,s',QW (cs.getD k ⟨0,0⟩).cell true h'),h,by show cs.length-(k+1)<cs.length-k;omega,next ho,rfl,rfl,_,QWq x C ac body cs l (l++[cs.getD k ⟨0,0⟩]) k h' (QW (cs.getD k ⟨0,0⟩).cell true h') s'.1 s'.2.1 s'.2.2 (k+1),?_⟩
    repeat' first|with_reducible refine QN ?_ ?_|exact trivial|with_reducible rfl|exact qlr _|exact qRr|exact QZ _ _ _ _|exact hw|exact hp|exact(by simp:l.length≤(l++[cs.getD k ⟨0,0⟩]).length)|exact Gb _ _|exact Gq _ _ hl rfl _|refine And.intro ?_ ?_
  ·have h:cs.length≤k:=by have:=of_decide_eq_false h;omega
   have he:=Gk (f:=Kf x l (Vx x C d l)) h (many,f,g) has;refine⟨trE x ac body l has many f g,by unfold V7;simp only[he,and_self],rfl,rfl,_,QKk x C ac body l has many f g,?_⟩
   repeat' first|with_reducible refine QN ?_ ?_|exact trivial|with_reducible rfl|exact qlr _|exact qRr|exact QZ _ _ _ _|exact K1 _ _ _|refine And.intro ?_ ?_
 | stop s' h'=>
  refine Q0 (QUY (kPb cs k) (kPb cs k) x C ac body cs l (l++[cs.getD k ⟨0,0⟩]) has (QW (cs.getD k ⟨0,0⟩).cell true has) many f g k h' s'.1 s'.2.1 s'.2.2 g0) ?_;refine QI (fun h => ?_) (fun h => ?_)
  ·have h:k<cs.length:=by have:=qdt h;omega
   have hw:=K6 h hcs;have hpb:kPb cs k=QS:=by unfold kPb;rw[decide_eq_true h]
   rw[hpb];have step:=HI (f:=Kf x l (Vx x C d l)) h (many,f,g) has
   have next:∀{s2:TrS} {h2:Int→Bool},Kf x l (Vx x C d l) (many,f,g) has (cs.getD k ⟨0,0⟩) = .go s2 h2→∀ e J,V7 x C ac body d cs l (k+1,s2,h2) e J→V7 x C ac body d cs l (k,(many,f,g),has) e J:=by
    intro s2 h2 he e J hr;unfold V7 at hr ⊢;simp only at hr ⊢;rw[step,he];exact hr
   have one:∀ b,JG x l (cs.getD k ⟨0,0⟩)=b→Kf x l (Vx x C d l) (many,f,g) has (cs.getD k ⟨0,0⟩)=match b with
     | true => .go (many,f,g) has
     | false=>match Kj x (l++[cs.getD k ⟨0,0⟩])with
      | false => .go (many,f,g) (QW (cs.getD k ⟨0,0⟩).cell true (QW (cs.getD k ⟨0,0⟩).cell true has))
      | true => .stop s' (QW (cs.getD k ⟨0,0⟩).cell true h'):=by
    intro b hb;unfold Kf;rw[hb,hrec];cases b
    ·cases Kj x (l++[cs.getD k ⟨0,0⟩])<;>rfl
    ·rfl
   refine QF (by simp;omega) (QF (by simp;omega) (KK fun _ => ?_))
   refine QF rfl (QI (fun hf => ?_) (fun hf=>QF (by simp;omega) (QF rfl (QF (Q4.2 ?_) (QI (fun hq => ?_) (fun hq => ?_))))))
   ·have hf:JG x l (cs.getD k ⟨0,0⟩)=true:=XB.trans hf;refine⟨(k+1,(many,f,g),has),h,by show cs.length-(k+1)<cs.length-k;omega,next (one _ hf),rfl,rfl,_,QQr x C ac body cs l has many f g k (k+1),?_⟩
    repeat' first|with_reducible refine QN ?_ ?_|exact trivial|with_reducible rfl|exact qlr _|exact qRr|exact QZ _ _ _ _|exact K1 _ _ _|exact hw|refine And.intro ?_ ?_
   ·repeat' first|with_reducible refine QN ?_ ?_|exact trivial|with_reducible rfl|exact qlr _|exact qRr|exact QZ _ _ _ _|exact ZD _ _|exact ZG _ _|exact Y2 _ _ _ rfl|refine And.intro ?_ ?_
   ·have hf:JG x l (cs.getD k ⟨0,0⟩)=false:=XB.trans hf;have hq:Kj x (l++[cs.getD k ⟨0,0⟩])=false:=by simpa using hq
    have hp:=Hr l hl;have hp1:i64.wrap (((l.length+1:Nat):Int)-1)=l.length:=(w64 (by omega) (by omega)).trans (by omega)
    have ho:=one _ hf;rw[hq]at ho;refine QF (by simp[isI]) (QF (by rw[hp1];simp) ?_)
    refine⟨(k+1,(many,f,g),QW (cs.getD k ⟨0,0⟩).cell true (QW (cs.getD k ⟨0,0⟩).cell true has)),h,by show cs.length-(k+1)<cs.length-k;omega,next ho,rfl,rfl,_,QJq x C ac body cs l has (QW (cs.getD k ⟨0,0⟩).cell true (QW (cs.getD k ⟨0,0⟩).cell true has)) many f g k (k+1),?_⟩
    repeat' first|with_reducible refine QN ?_ ?_|exact trivial|with_reducible rfl|exact qlr _|exact qRr|exact QZ _ _ _ _|exact hw|exact hp|exact Nat.le_succ _|exact H4 _ _|exact zq _ _ _ hl (by simp[toI];rfl) _|refine And.intro ?_ ?_
   ·have hf:JG x l (cs.getD k ⟨0,0⟩)=false:=XB.trans hf;have hq:Kj x (l++[cs.getD k ⟨0,0⟩])=true:=by simpa using hq
    have hp:=HX l (cs.getD k ⟨0,0⟩) hl
    have hp1:i64.wrap (((l++[cs.getD k ⟨0,0⟩]).length:Int)-1)=l.length:=by
     rw[List.length_append,List.length_singleton];exact(w64 (by omega) (by omega)).trans (by omega)
    have ho:=one _ hf;rw[hq]at ho;refine QF (Q4.2 ?_) (QF rfl (QF (by rw[hp1];simp) (QI (fun _ => ?_) (fun q=>by cases q))))
    ·repeat' first|with_reducible refine QN ?_ ?_|exact trivial|with_reducible rfl|exact qlr _|exact qRr|exact QZ _ _ _ _|exact ZD _ _|exact ZG _ _|exact Y2 _ _ _ rfl|exact H9 _ _ hl rfl _|refine And.intro ?_ ?_
    have rel:V7 x C ac body d cs l (k,(many,f,g),has) .ret (trF x ac body l (QW (cs.getD k ⟨0,0⟩).cell true h') s'.1 s'.2.1 s'.2.2):=by
     unfold V7;simp only[step,ho,and_self]
    refine⟨_,rel,rfl,rfl,_,QTR x C ac body cs l (l++[cs.getD k ⟨0,0⟩]) k h' (QW (cs.getD k ⟨0,0⟩).cell true h') s'.1 s'.2.1 s'.2.2,?_⟩
    repeat' first|with_reducible refine QN ?_ ?_|exact trivial|with_reducible rfl|exact qlr _|exact qRr|exact QZ _ _ _ _|exact hw|exact hp|exact(by simp:l.length≤(l++[cs.getD k ⟨0,0⟩]).length)|exact Gb _ _|exact Gq _ _ hl rfl _|refine And.intro ?_ ?_
  ·have h:cs.length≤k:=by have:=of_decide_eq_false h;omega
   have he:=Gk (f:=Kf x l (Vx x C d l)) h (many,f,g) has;refine⟨trE x ac body l has many f g,by unfold V7;simp only[he,and_self],rfl,rfl,_,QKk x C ac body l has many f g,?_⟩
   repeat' first|with_reducible refine QN ?_ ?_|exact trivial|with_reducible rfl|exact qlr _|exact qRr|exact QZ _ _ _ _|exact K1 _ _ _|refine And.intro ?_ ?_
def Z1(pb:List Prop→Bool)(U:UC):Tab:=Qe Qn 56 (Jj pb U)
abbrev trX(P:Program)(J:JSt)(X:List (Prop×Ex×JSt)):Hnd:={ hnd (mkE P Qn) 2 with loop:=fun _=>KN 272 qv J X }
noncomputable abbrev JT:Nat×Blk:=
  (200,.cells 0 38 [.slz 248 0 l.length cO])
noncomputable abbrev JN(l:List QB):Nat×Blk:=
  (176,.mpf i64 (.int true .i64 0) has fun i => .int false .i64 (QH l i))
noncomputable abbrev Vb:Nat×Blk:=
  (161,.lp LoopState.ready none (trT x) (Array.mk [18]) (QM Try.f25 0).1 (QM Try.f25 0).2)
noncomputable abbrev QBU:Nat×Blk:=
  (32,.cells 0 3 [vi many])
noncomputable abbrev VF:Nat×Blk:=
  (16,.cells 0 38 [.slz 256 0 f.length cO])
noncomputable abbrev VB:Nat×Blk:=
  (24,.cells 0 38 [.slz 264 0 g.length cO])
noncomputable abbrev JR:Nat×Blk:=
  (248,.rowz true 56 [.int .i64,.int .i64] l.length fun i=>QA.enc (l.getD i ⟨0,0⟩))
abbrev KB:List CK:=
  [.int .i64,.int .i64,.int .i64,.int .i64,.int .i64,.int .i64,.int .i64,.int .i64,.int .i64,.int .i64,.int .i64,.int .i64,.int .i64,.int .i64,.int .i64,.int .i64,.int
  .i64,.int .i64,.int .i64,.int .i64,.int .i64,.int .i64,.int .i64,.int .i64,.int .i64,.int .i64,.int .i64,.int .i64]
noncomputable abbrev JU:Nat×Blk:=
  (2,.frz [.int .i64,.int .i64,.int .i64,.int .i64] x.hang.n fun i=>QA.enc (x.hang.get i))
noncomputable abbrev JQ:Nat×Blk:=
  (8,.cellsR 0 50 [vi x.d.play.length,vi x.d.play.slack,vi x.d.play.loose,vi x.d.play.damp.lo,.int false .i64
  x.d.play.damp.hi,vi x.d.wide,vi x.d.high,.bool false x.d.turn,.slz 0 0 x.d.ps.n cO,.slz 1 0 x.scans.n cO,.slz 2 0 x.hang.n (Cap.of
  0),vi x.lost,vi x.foreign])
noncomputable abbrev JO(x:QE):Nat×Blk:=
  (56,.cellsR 0 125 [vi x.d.play.length,vi x.d.play.slack,vi x.d.play.loose,vi x.d.play.damp.lo,.int false .i64
  x.d.play.damp.hi,vi x.d.wide,vi x.d.high,.bool false x.d.turn,.slz 0 0 x.d.ps.n cO,.slz 1 0 x.scans.n cO,.slz 2 0 x.hang.n (Cap.of
  0),vi x.lost,vi x.foreign,.slz 57 0 C.length cO])
noncomputable abbrev JV:Nat×Blk:=
  (128,.cellsR 0 89 [.ptr 56 0 0])
noncomputable abbrev J6:Nat×Blk:=
  (256,.rowz true 56 [.int .i64,.int .i64] f.length fun i=>QA.enc (f.getD i ⟨0,0⟩))
noncomputable abbrev J8:Nat×Blk:=
  (264,.rowz true 56 [.int .i64,.int .i64] g.length fun i=>QA.enc (g.getD i ⟨0,0⟩))
noncomputable abbrev JP:Nat×Blk:=
  (57,.frz2 false 38 [.int .i64,.int .i64] C.length (fun i=>(QJ C i).length) fun i j=>QA.enc ((QJ C i).getD j ⟨0,0⟩))
abbrev QIP:List Prop:=
  [0=0,l.length=l.length,cO=cO,l.length≤l.length,QC 2 l.length (fun i=>QA.enc (l.getD i ⟨0,0⟩)) fun i=>QA.enc (l.getD i ⟨0,0⟩)]
noncomputable abbrev Yb:Nat×Blk:=
  (161,.lp LoopState.done (some (Code.exit 0)) (trT x) (Array.mk [18]) (QM Try.f25 0).1 (QM Try.f25 0).2)
noncomputable abbrev Jl:Nat×Blk:=
  (32,.cells 0 3 [vi (i64.wrap (many+1))])
noncomputable abbrev QFo:Nat×Blk:=
  (16,.cells 0 38 [.slz 584 0 l.length cO])
noncomputable abbrev QGD:Nat×Blk:=
  (584,.rowz true 56 [.int .i64,.int .i64] l.length fun i=>QA.enc (l.getD i ⟨0,0⟩))
noncomputable abbrev QGm:Nat×Blk:=
  (24,.cells 0 38 [.slz 600 0 l.length cO])
noncomputable abbrev QDo:Nat×Blk:=
  (600,.rowz true 56 [.int .i64,.int .i64] l.length fun i=>QA.enc (l.getD i ⟨0,0⟩))
theorem QD4(pb:List Prop→Bool)(x:QE)(C:List (List QB))(l:List QB)(has:Int→Bool)(many:Int)(f g:List QB):(Vc (mkE Try.prog (Z1 pb (clU l))) (msN Try.prog (Z1 pb (clU l))) Try.f77 QBN (qw x C (QM Try.f25 0).1 (QM Try.f25 0).2 l has many f g).hp 272 fun v h _=>
  Yc qv v h) = .br ((l.length:Int)==(x.scans.n:Int)) (.need (isI i64 (.int false .i64 (QH l (-2:Int)))) (.br (decide (i64.wrap ((x.d.ps.n:Int) -
  i64.wrap ((l.length:Int)-toI (.int false .i64 (QH l (-2:Int)))))>x.lost)) (.leaf (.bool true true) ([(JT l),(JN has l),(Vb x),(QBU many),(VF f),
  (VB g),(JR l),(0,.frz KB x.d.ps.n fun i=>QA.enc (x.d.ps.get i)),(1,.frz KB x.scans.n fun i=>QA.enc (x.scans.get i)),(JU x),(JQ x),(JO C x),JV,
  (J6 f),(J8 g),(JP C)])) (.br (i64.wrap (many+1)==1) (.need (pb ((QIP l))) (.br (i64.wrap (many+1)==100) (.leaf (.bool true false) ([(JT l),
  (JN has l),(Yb x),(Jl many),(QFo l),(VB g),(JR l),(0,.frz KB x.d.ps.n fun i=>QA.enc (x.d.ps.get i)),(1,.frz KB x.scans.n fun i=>QA.enc
  (x.scans.get i)),(JU x),(JQ x),(JO C x),JV,(QGD l),(J8 g),(JP C)])) (.leaf (.bool true true) ([(JT l),(JN has l),(Vb x),(Jl many),(QFo l),
  (VB g),(JR l),(0,.frz KB x.d.ps.n fun i=>QA.enc (x.d.ps.get i)),(1,.frz KB x.scans.n fun i=>QA.enc (x.scans.get i)),(JU x),(JQ x),(JO C x),JV,
  (QGD l),(J8 g),(JP C)])))) (.br (i64.wrap (many+1)==2) (.need (pb ((QIP l))) (.br (i64.wrap (many+1)==100) (.leaf (.bool true false) ([(JT l),
  (JN has l),(Yb x),(Jl many),(VF f),(QGm l),(JR l),(0,.frz KB x.d.ps.n fun i=>QA.enc (x.d.ps.get i)),(1,.frz KB x.scans.n fun i=>QA.enc
  (x.scans.get i)),(JU x),(JQ x),(JO C x),JV,(J6 f),(QDo l),(JP C)])) (.leaf (.bool true true) ([(JT l),(JN has l),(Vb x),(Jl many),(VF f),
  (QGm l),(JR l),(0,.frz KB x.d.ps.n fun i=>QA.enc (x.d.ps.get i)),(1,.frz KB x.scans.n fun i=>QA.enc (x.scans.get i)),(JU x),(JQ x),(JO C x),JV,
  (J6 f),(QDo l),(JP C)])))) (.br (i64.wrap (many+1)==100) (.leaf (.bool true false) ([(JT l),(JN has l),(Yb x),(Jl many),(VF f),(VB g),(JR
  l),(0,.frz KB x.d.ps.n fun i=>QA.enc (x.d.ps.get i)),(1,.frz KB x.scans.n fun i=>QA.enc (x.scans.get i)),(JU x),(JQ x),(JO C x),JV,(J6 f),(J8 g),
  (JP C)])) (.leaf (.bool true true) ([(JT l),(JN has l),(Vb x),(Jl many),(VF f),(VB g),(JR l),(0,.frz KB x.d.ps.n fun i=>QA.enc (x.d.ps.get i)),(1,
  .frz KB x.scans.n fun i=>QA.enc (x.scans.get i)),(JU x),(JQ x),(JO C x),JV,(J6 f),(J8 g),(JP C)]))))))) (.need (decide ((0:Int)≤(l.length:Int) ∧
  (l.length : Int) < (C.length : Int)) && decide (C.length ≤ C.length)) (.need (decide (l.length < C.length)) (.fail ("a loop")))) := by kernel_rfl
abbrev QCK(l:List QB):List Prop:=
  [true=true,0=0,l.length=l.length,cO=cO,l.length≤l.length,QC 2 l.length (fun i=>QA.enc (l.getD i ⟨0,0⟩)) fun i=>QA.enc (l.getD i ⟨0,0⟩),
  KA (.int true .i64 0) (.int true .i64 0) has has (fun i => .int false .i64 (QH l i)) fun i => .int false .i64 (QH l i),LoopState.ready=LoopState.ready,(none:Option
  Code)=none,Array.mk [18]=Array.mk [(18:Tmp)],(QM Try.f25 0).1=(QM Try.f25 0).1,(QM Try.f25 0).2=(QM Try.f25 0).2]
abbrev XT:List Prop:=
  [x.d.play.length=x.d.play.length,x.d.play.slack=x.d.play.slack,x.d.play.loose=x.d.play.loose,x.d.play.damp.lo=x.d.play.damp.lo,x.d.play.damp.hi=x.d.play.damp.hi,
  x.d.wide=x.d.wide,x.d.high=x.d.high,x.d.turn=x.d.turn,0=0,x.d.ps.n=x.d.ps.n,cO=cO,0=0,x.scans.n=x.scans.n,cO=cO,0=0,x.hang.n =
  x.hang.n,cO=cO,x.lost=x.lost,x.foreign=x.foreign,0=0]
abbrev XW:List Prop:=
  [0=0,0=0,0=0,0=0]
abbrev qK:List Prop:=
  [0=0,0=0,0=0,(0:Int)=0]
abbrev jZ:List Prop:=
  [0=0,(0:Int)=0,0=0,0=0,(0:Int)=0,(0:Int)=0,false=false,0=0,0=0,Fn.func (76:FuncId)=Fn.func (76:FuncId),0=0,0=0]
theorem QbM :QK 272 [(.bool true true)] ([(JT l),(JN has l),(Vb x),(QBU many),(VF f),(VB g),(JR l),(0,.frz KB x.d.ps.n fun i=>QA.enc (x.d.ps.get i)),(1,.frz
  KB x.scans.n fun i=>QA.enc (x.scans.get i)),(JU x),(JQ x),(JO C x),JV,(J6 f),(J8 g),(JP C)]) (Kk (trU x C (QM Try.f25 0).1 (QM Try.f25 0).2 l
  has many f g has many f g))=(some ((QCK has l)++(XT x)++XW++qK++XW++[(0:Int)=0]++(XT x)++jZ++[many=many,0=0,f.length=f.length,
  cO=cO,f.length≤f.length,QC 2 f.length (fun i=>QA.enc (f.getD i ⟨0,0⟩)) fun i=>QA.enc (f.getD i ⟨0,0⟩),0=0,g.length=g.length,cO=Cap.of
  0,g.length≤g.length,QC 2 g.length (fun i=>QA.enc (g.getD i ⟨0,0⟩)) fun i=>QA.enc (g.getD i ⟨0,0⟩)])):=by kernel_rfl
abbrev QEk:List Prop:=
  [g.length=g'.length,cO=cO,g'.length≤g.length,QC 2 g'.length (fun i=>QA.enc (g.getD i ⟨0,0⟩)) fun i=>QA.enc (g'.getD i ⟨0,0⟩)]
theorem QZx(f' g':List QB):QK 272 [(.bool true true)] ([(JT l),(JN has l),(Vb x),(Jl many),(QFo l),(VB g),(JR l),(0,.frz KB x.d.ps.n fun i=>QA.enc (x.d.ps.get i)),(1,.frz
  KB x.scans.n fun i=>QA.enc (x.scans.get i)),(JU x),(JQ x),(JO C x),JV,(QGD l),(J8 g),(JP C)]) (Kk (trU x C (QM Try.f25 0).1 (QM Try.f25 0).2 l
  has many f g has many' f' g'))=(some ((QCK has l)++(XT x)++XW++qK++XW++[(0:Int)=0]++(XT x)++jZ++[i64.wrap (many+1)=many',0 =
  0,l.length=f'.length,cO=cO,f'.length≤l.length,QC 2 f'.length (fun i=>QA.enc (l.getD i ⟨0,0⟩)) fun i=>QA.enc (f'.getD i ⟨0,0⟩),0=0]++(QEk g
  g'))):=by kernel_rfl
abbrev QFW:List Prop:=
  [0=0,f.length=f'.length,cO=cO,f'.length≤f.length,QC 2 f'.length (fun i=>QA.enc (f.getD i ⟨0,0⟩)) fun i=>QA.enc (f'.getD i ⟨0,0⟩),0=0]
theorem QZJ(f' g':List QB):QK 272 [(.bool true true)] ([(JT l),(JN has l),(Vb x),(Jl many),(VF f),(QGm l),(JR l),(0,.frz KB x.d.ps.n fun i=>QA.enc (x.d.ps.get i)),(1,.frz
  KB x.scans.n fun i=>QA.enc (x.scans.get i)),(JU x),(JQ x),(JO C x),JV,(J6 f),(QDo l),(JP C)]) (Kk (trU x C (QM Try.f25 0).1 (QM Try.f25 0).2 l
  has many f g has many' f' g'))=(some ((QCK has l)++(XT x)++XW++qK++XW++[(0:Int)=0]++(XT x)++jZ++[i64.wrap (many+1)=many'] ++
  (QFW f f')++[l.length=g'.length,cO=cO,g'.length≤l.length,QC 2 g'.length (fun i=>QA.enc (l.getD i ⟨0,0⟩)) fun i=>QA.enc (g'.getD i ⟨0,0⟩)])):=by kernel_rfl
abbrev QEj:List Prop:=
  [0=0,l.length=l.length,cO=cO,l.length≤l.length,QC 2 l.length (fun i=>QA.enc (l.getD i ⟨0,0⟩)) fun i=>QA.enc (l.getD i ⟨0,0⟩)]
abbrev QLV:List Prop:=
  [LoopState.done=LoopState.done,some (Code.exit 0)=some (Code.exit 0),Array.mk [18]=Array.mk [(18:Tmp)],(QM Try.f25 0).1=(QM Try.f25 0).1,(QM Try.f25 0).2 =
  (QM Try.f25 0).2]
theorem QS2(f' g':List QB):QK 272 [(.bool true false)] ([(JT l),(JN has l),(Yb x),(Jl many),(VF f),(VB g),(JR l),(0,.frz KB x.d.ps.n fun i=>QA.enc (x.d.ps.get i)),(1,.frz
  KB x.scans.n fun i=>QA.enc (x.scans.get i)),(JU x),(JQ x),(JO C x),JV,(J6 f),(J8 g),(JP C)]) (Kk (trV x C (QM Try.f25 0).1 (QM Try.f25 0).2 l
  has many f g has many' f' g'))=(some ([false=false]++(QEj l)++[KA (.int true .i64 0) (.int true .i64 0) has has (fun i => .int false .i64 (QH l i)) fun i => .int
  false .i64 (QH l i)]++QLV++(XT x)++XW++qK++XW++[(0:Int)=0]++(XT x)++jZ++[i64.wrap (many+1)=many']++(QFW f f')++(QEk g
  g'))):=by kernel_rfl
theorem QXO(f' g':List QB):QK 272 [(.bool true true)] ([(JT l),(JN has l),(Vb x),(Jl many),(VF f),(VB g),(JR l),(0,.frz KB x.d.ps.n fun i=>QA.enc (x.d.ps.get i)),(1,.frz
  KB x.scans.n fun i=>QA.enc (x.scans.get i)),(JU x),(JQ x),(JO C x),JV,(J6 f),(J8 g),(JP C)]) (Kk (trU x C (QM Try.f25 0).1 (QM Try.f25 0).2 l
  has many f g has many' f' g'))=(some ((QCK has l)++(XT x)++XW++qK++XW++[(0:Int)=0]++(XT x)++jZ++[i64.wrap (many+1)=many'] ++
  (QFW f f')++(QEk g g'))):=by kernel_rfl
noncomputable abbrev QCH:Nat×Blk:=
  (16,.cells 0 38 [.slz 624 0 (0+l.length) cO])
noncomputable abbrev QBy(x:QE):Nat×Blk:=
  (624,.rowz true 56 [.int .i64,.int .i64] (0+l.length) (QY 0 (fun x x_1=>(0:Int)) fun i=>QA.enc (l.getD i ⟨0,0⟩)))
noncomputable abbrev QCP:Nat×Blk:=
  (24,.cells 0 38 [.slz 640 0 (0+l.length) cO])
noncomputable abbrev QC6(x:QE):Nat×Blk:=
  (640,.rowz true 56 [.int .i64,.int .i64] (0+l.length) (QY 0 (fun x x_1=>(0:Int)) fun i=>QA.enc (l.getD i ⟨0,0⟩)))
noncomputable abbrev QLc(has':Int→Bool)(l:List QB)(many':Int)(x:QE):List (Nat×Blk):=
  [(200,.cells 0 38 [.slz 280 0 l.length cO]),(176,.mpf i64 (.int true .i64 0) has' fun i => .int false .i64 (QH l i)),(Vb x),(32,.cells 0 3 [.int false
  .i64 many']),(16,.cells 0 38 [.slz 288 0 f'.length cO]),(24,.cells 0 38 [.slz 296 0 g'.length cO]),(280,.rowz true 56 [.int .i64,.int .i64] l.length fun i=>
  QA.enc (l.getD i ⟨0,0⟩)),(288,.rowz true 56 [.int .i64,.int .i64] f'.length fun i=>QA.enc (f'.getD i ⟨0,0⟩)),(296,.rowz true 56 [.int .i64,.int .i64] g'.length fun i
  => QA.enc (g'.getD i ⟨0,0⟩))]
theorem QSZ(cs l:List QB)(has:Int→Bool)(many:Int)(f g:List QB)(has':Int→Bool)(many':Int)(f' g':List QB):(Vc (mkE Try.prog Qn) (trX Try.prog (trJ x C (QM Try.f25 0).1 (QM Try.f25 0).2 cs l has many f g 0) [(True,.exit 0,trE x (QM Try.f25 0).1 (QM Try.f25 0).2 l
  has' many' f' g')]) Try.f77 QBN (qw x C (QM Try.f25 0).1 (QM Try.f25 0).2 l has many f g).hp 272 fun v h _=>Yc qv v h) = .br ((l.length:Int)==(x.scans.n :
  Int)) (.need (isI i64 (.int false .i64 (QH l (-2:Int)))) (.br (decide (i64.wrap ((x.d.ps.n:Int)-i64.wrap ((l.length:Int)-toI (.int false .i64
  (QH l (-2:Int)))))>x.lost)) (.leaf (.bool true true) ([(JT l),(JN has l),(Vb x),(QBU many),(VF f),(VB g),(JR l),(0,.frz KB x.d.ps.n fun i=>
  QA.enc (x.d.ps.get i)),(1,.frz KB x.scans.n fun i=>QA.enc (x.scans.get i)),(JU x),(JQ x),(JO C x),JV,(J6 f),(J8 g),(JP C)])) (.br (i64.wrap
  (many+1)==1) (.need (decide (0<l.length∧l.length≤l.length)) (.need (true&&(decide (l.length≤l.length)&&decide ((0+l.length+(0+l.length) / 4+192)*16 ≤
  281474976710656∧0+l.length≤9223372036854775807))) (.br (i64.wrap (many+1)==100) (.leaf (.bool true false) ([(JT l),(JN has l),(Yb x),(Jl many),(QCH
  l),(VB g),(JR l),(0,.frz KB x.d.ps.n fun i=>QA.enc (x.d.ps.get i)),(1,.frz KB x.scans.n fun i=>QA.enc (x.scans.get i)),(JU x),(JQ x),(JO C x),JV,
  (QBy l x),(J8 g),(JP C)])) (.leaf (.bool true true) ([(JT l),(JN has l),(Vb x),(Jl many),(QCH l),(VB g),(JR l),(0,.frz KB x.d.ps.n fun i=>
  QA.enc (x.d.ps.get i)),(1,.frz KB x.scans.n fun i=>QA.enc (x.scans.get i)),(JU x),(JQ x),(JO C x),JV,(QBy l x),(J8 g),(JP C)]))))) (.br
  (i64.wrap (many+1)==2) (.need (decide (0<l.length∧l.length≤l.length)) (.need (true&&(decide (l.length≤l.length)&&decide ((0+l.length+(0+l.length) / 4 +
  192)*16≤281474976710656∧0+l.length≤9223372036854775807))) (.br (i64.wrap (many+1)==100) (.leaf (.bool true false) ([(JT l),(JN has l),(Yb x),(Jl
  many),(VF f),(QCP l),(JR l),(0,.frz KB x.d.ps.n fun i=>QA.enc (x.d.ps.get i)),(1,.frz KB x.scans.n fun i=>QA.enc (x.scans.get i)),(JU x),(JQ x),
  (JO C x),JV,(J6 f),(QC6 l x),(JP C)])) (.leaf (.bool true true) ([(JT l),(JN has l),(Vb x),(Jl many),(VF f),(QCP l),(JR l),(0,.frz KB
  x.d.ps.n fun i=>QA.enc (x.d.ps.get i)),(1,.frz KB x.scans.n fun i=>QA.enc (x.scans.get i)),(JU x),(JQ x),(JO C x),JV,(J6 f),(QC6 l x),(JP C)])))))
  (.br (i64.wrap (many+1)==100) (.leaf (.bool true false) ([(JT l),(JN has l),(Yb x),(Jl many),(VF f),(VB g),(JR l),(0,.frz KB x.d.ps.n fun i=>
  QA.enc (x.d.ps.get i)),(1,.frz KB x.scans.n fun i=>QA.enc (x.scans.get i)),(JU x),(JQ x),(JO C x),JV,(J6 f),(J8 g),(JP C)])) (.leaf (.bool true
  true) ([(JT l),(JN has l),(Vb x),(Jl many),(VF f),(VB g),(JR l),(0,.frz KB x.d.ps.n fun i=>QA.enc (x.d.ps.get i)),(1,.frz KB x.scans.n fun i=>
  QA.enc (x.scans.get i)),(JU x),(JQ x),(JO C x),JV,(J6 f),(J8 g),(JP C)]))))))) (.need (decide ((0:Int)≤(l.length:Int)∧(l.length:Int)<(C.length :
  Int))&&decide (C.length≤C.length)) (.need (decide (l.length<C.length)) (.ask (0=0) (.ask (0=0) (.ask (0=0) (.ask (0=0) (.ask (0=0) (.ask (0=0) (.ask (0=0) (.ask
  (0=0) (.ask (0=0) (.ask (0=0) (.ask (0=0) (.ask ((QJ C l.length).length=cs.length) (.ask (Cap.of 0=Cap.of 0) (.ask ((↑(QJ C l.length).length:Int)=(cs.length :
  Int)) (.ask ((0:Int)=0) (.ask (cs.length≤(QJ C l.length).length) (.ask (QC 2 cs.length (fun j=>QA.enc ((QJ C l.length).getD j ⟨0,0⟩)) fun i=>QA.enc (cs.getD i
  ⟨0,0⟩)) (.ask (0=0) (.ask (l.length=l.length) (.ask (Cap.of 0=Cap.of 0) (.ask (l.length≤l.length) (.ask (QC 2 l.length (fun i=>QA.enc (l.getD i ⟨0,0⟩)) fun i=>
  QA.enc (l.getD i ⟨0,0⟩)) (.ask (KA (.int true .i64 0) (.int true .i64 0) has has (fun i => .int false .i64 (QH l i)) fun i => .int false .i64 (QH l i)) (.ask
  (LoopState.ready=LoopState.ready) (.ask ((none:Option Code)=none) (.ask (Array.mk [(18:Tmp)]=Array.mk [(18:Tmp)]) (.ask ((QM Try.f25 0).1=(QM Try.f25 0).1)
  (.ask ((QM Try.f25 0).2=(QM Try.f25 0).2) (.ask (x.d.play.length=x.d.play.length) (.ask (x.d.play.slack=x.d.play.slack) (.ask (x.d.play.loose=x.d.play.loose) (.ask
  (x.d.play.damp.lo=x.d.play.damp.lo) (.ask (x.d.play.damp.hi=x.d.play.damp.hi) (.ask (x.d.wide=x.d.wide) (.ask (x.d.high=x.d.high) (.ask (x.d.turn=x.d.turn) (.ask (0=0)
  (.ask (x.d.ps.n=x.d.ps.n) (.ask (Cap.of 0=Cap.of 0) (.ask (0=0) (.ask (x.scans.n=x.scans.n) (.ask (Cap.of 0=Cap.of 0) (.ask (0=0) (.ask (x.hang.n=x.hang.n) (.ask
  (Cap.of 0=Cap.of 0) (.ask (x.lost=x.lost) (.ask (x.foreign=x.foreign) (.ask (0=0) (.ask (0=0) (.ask (0=0) (.ask (0=0) (.ask (0=0) (.ask (0=0) (.ask (0=0) (.ask
  (0=0) (.ask ((0:Int)=0) (.ask (0=0) (.ask (0=0) (.ask (0=0) (.ask (0=0) (.ask ((0:Int)=0) (.ask (x.d.play.length=x.d.play.length) (.ask (x.d.play.slack =
  x.d.play.slack) (.ask (x.d.play.loose=x.d.play.loose) (.ask (x.d.play.damp.lo=x.d.play.damp.lo) (.ask (x.d.play.damp.hi=x.d.play.damp.hi) (.ask (x.d.wide=x.d.wide) (.ask
  (x.d.high=x.d.high) (.ask (x.d.turn=x.d.turn) (.ask (0=0) (.ask (x.d.ps.n=x.d.ps.n) (.ask (Cap.of 0=Cap.of 0) (.ask (0=0) (.ask (x.scans.n=x.scans.n) (.ask (Cap.of 0 =
  Cap.of 0) (.ask (0=0) (.ask (x.hang.n=x.hang.n) (.ask (Cap.of 0=Cap.of 0) (.ask (x.lost=x.lost) (.ask (x.foreign=x.foreign) (.ask (0=0) (.ask (0=0) (.ask ((0:Int) =
  0) (.ask (0=0) (.ask (0=0) (.ask ((0:Int)=0) (.ask ((0:Int)=0) (.ask (false=false) (.ask (0=0) (.ask (0=0) (.ask (Fn.func (76:FuncId)=Fn.func (76:FuncId))
  (.ask (0=0) (.ask (0=0) (.ask (many=many) (.ask (0=0) (.ask (f.length=f.length) (.ask (Cap.of 0=Cap.of 0) (.ask (f.length≤f.length) (.ask (QC 2 f.length (fun i=>
  QA.enc (f.getD i ⟨0,0⟩)) fun i=>QA.enc (f.getD i ⟨0,0⟩)) (.ask (0=0) (.ask (g.length=g.length) (.ask (Cap.of 0=Cap.of 0) (.ask (g.length≤g.length) (.ask (QC 2
  g.length (fun i=>QA.enc (g.getD i ⟨0,0⟩)) fun i=>QA.enc (g.getD i ⟨0,0⟩)) (.ask (Fn.func (77:FuncId)=Fn.func (77:FuncId)) (.ask (0=0) (.ask (0=0) (.ask (0=0)
  (.ask (0=0) (.ask (0=0) (.ask (0=0) (.ask (0=0) (.ask (0=0) (.ask (0=0) (.ask (0=0) (.ask (0=0) (.ask (0=0) (.ask (x.d.play.length=x.d.play.length) (.ask
  (x.d.play.slack=x.d.play.slack) (.ask (x.d.play.loose=x.d.play.loose) (.ask (x.d.play.damp.lo=x.d.play.damp.lo) (.ask (x.d.play.damp.hi=x.d.play.damp.hi) (.ask (x.d.wide =
  x.d.wide) (.ask (x.d.high=x.d.high) (.ask (x.d.turn=x.d.turn) (.ask (0=0) (.ask (x.d.ps.n=x.d.ps.n) (.ask (Cap.of 0=Cap.of 0) (.ask (0=0) (.ask (x.scans.n=x.scans.n)
  (.ask (Cap.of 0=Cap.of 0) (.ask (0=0) (.ask (x.hang.n=x.hang.n) (.ask (Cap.of 0=Cap.of 0) (.ask (x.lost=x.lost) (.ask (x.foreign=x.foreign) (.ask (x.d.play.length =
  x.d.play.length) (.ask (x.d.play.slack=x.d.play.slack) (.ask (x.d.play.loose=x.d.play.loose) (.ask (x.d.play.damp.lo=x.d.play.damp.lo) (.ask (x.d.play.damp.hi =
  x.d.play.damp.hi) (.ask (x.d.wide=x.d.wide) (.ask (x.d.high=x.d.high) (.ask (x.d.turn=x.d.turn) (.ask (0=0) (.ask (x.d.ps.n=x.d.ps.n) (.ask (Cap.of 0=Cap.of 0) (.ask (0
  = 0) (.ask (x.scans.n=x.scans.n) (.ask (Cap.of 0=Cap.of 0) (.ask (0=0) (.ask (x.hang.n=x.hang.n) (.ask (Cap.of 0=Cap.of 0) (.ask (x.lost=x.lost) (.ask (x.foreign =
  x.foreign) (.ask (0=0) (.ask (C.length=C.length) (.ask (Cap.of 0=Cap.of 0) (.ask (C.length=C.length) (.ask (Kd 2 C.length (fun i=>(QJ C i).length) (fun i=>(QJ C
  i).length) (fun i j=>QA.enc ((QJ C i).getD j ⟨0,0⟩)) fun i j=>QA.enc ((QJ C i).getD j ⟨0,0⟩)) (.ask (x.d.ps.n≤x.d.ps.n) (.ask (QC 28 x.d.ps.n (fun i=>QA.enc
  (x.d.ps.get i)) fun i=>QA.enc (x.d.ps.get i)) (.ask (x.scans.n≤x.scans.n) (.ask (QC 28 x.scans.n (fun i=>QA.enc (x.scans.get i)) fun i=>QA.enc (x.scans.get i))
  (.ask (x.hang.n≤x.hang.n) (.ask (QC 4 x.hang.n (fun i=>QA.enc (x.hang.get i)) fun i=>QA.enc (x.hang.get i)) (.asm (True) (.all (fun(g0:Nat→Value) => .leaf (.bool
  true true) ((QLc f' g' has' l many'
  x))))))))))))))))))))))))))))))))))))))))))))))))))))))))))))))))))))))))))))))))))))))))))))))))))))))))))))))))))))))))))))))))))))))))))))))))))))))))))))))))))))))))))))):=by kernel_rfl
noncomputable abbrev QLP(has':Int→Bool)(l:List QB)(many':Int)(x:QE):List (Nat×Blk):=
  [(200,.cells 0 38 [.slz 280 0 l.length cO]),(176,.mpf i64 (.int true .i64 0) has' fun i => .int false .i64 (QH l i)),(Yb x),(32,.cells 0 3 [.int false
  .i64 many']),(16,.cells 0 38 [.slz 288 0 f'.length cO]),(24,.cells 0 38 [.slz 296 0 g'.length cO]),(280,.rowz true 56 [.int .i64,.int .i64] l.length fun i=>
  QA.enc (l.getD i ⟨0,0⟩)),(288,.rowz true 56 [.int .i64,.int .i64] f'.length fun i=>QA.enc (f'.getD i ⟨0,0⟩)),(296,.rowz true 56 [.int .i64,.int .i64] g'.length fun i
  => QA.enc (g'.getD i ⟨0,0⟩))]
theorem QVR(cs l:List QB)(has:Int→Bool)(many:Int)(f g:List QB)(has':Int→Bool)(many':Int)(f' g':List QB):(Vc (mkE Try.prog Qn) (trX Try.prog (trJ x C (QM Try.f25 0).1 (QM Try.f25 0).2 cs l has many f g 0) [(True,.ret,trF x (QM Try.f25 0).1 (QM Try.f25 0).2 l
  has' many' f' g')]) Try.f77 QBN (qw x C (QM Try.f25 0).1 (QM Try.f25 0).2 l has many f g).hp 272 fun v h _=>Yc qv v h) = .br ((l.length:Int)==(x.scans.n :
  Int)) (.need (isI i64 (.int false .i64 (QH l (-2:Int)))) (.br (decide (i64.wrap ((x.d.ps.n:Int)-i64.wrap ((l.length:Int)-toI (.int false .i64
  (QH l (-2:Int)))))>x.lost)) (.leaf (.bool true true) ([(JT l),(JN has l),(Vb x),(QBU many),(VF f),(VB g),(JR l),(0,.frz KB x.d.ps.n fun i=>
  QA.enc (x.d.ps.get i)),(1,.frz KB x.scans.n fun i=>QA.enc (x.scans.get i)),(JU x),(JQ x),(JO C x),JV,(J6 f),(J8 g),(JP C)])) (.br (i64.wrap
  (many+1)==1) (.need (decide (0<l.length∧l.length≤l.length)) (.need (true&&(decide (l.length≤l.length)&&decide ((0+l.length+(0+l.length) / 4+192)*16 ≤
  281474976710656∧0+l.length≤9223372036854775807))) (.br (i64.wrap (many+1)==100) (.leaf (.bool true false) ([(JT l),(JN has l),(Yb x),(Jl many),(QCH
  l),(VB g),(JR l),(0,.frz KB x.d.ps.n fun i=>QA.enc (x.d.ps.get i)),(1,.frz KB x.scans.n fun i=>QA.enc (x.scans.get i)),(JU x),(JQ x),(JO C x),JV,
  (QBy l x),(J8 g),(JP C)])) (.leaf (.bool true true) ([(JT l),(JN has l),(Vb x),(Jl many),(QCH l),(VB g),(JR l),(0,.frz KB x.d.ps.n fun i=>
  QA.enc (x.d.ps.get i)),(1,.frz KB x.scans.n fun i=>QA.enc (x.scans.get i)),(JU x),(JQ x),(JO C x),JV,(QBy l x),(J8 g),(JP C)]))))) (.br
  (i64.wrap (many+1)==2) (.need (decide (0<l.length∧l.length≤l.length)) (.need (true&&(decide (l.length≤l.length)&&decide ((0+l.length+(0+l.length) / 4 +
  192)*16≤281474976710656∧0+l.length≤9223372036854775807))) (.br (i64.wrap (many+1)==100) (.leaf (.bool true false) ([(JT l),(JN has l),(Yb x),(Jl
  many),(VF f),(QCP l),(JR l),(0,.frz KB x.d.ps.n fun i=>QA.enc (x.d.ps.get i)),(1,.frz KB x.scans.n fun i=>QA.enc (x.scans.get i)),(JU x),(JQ x),
  (JO C x),JV,(J6 f),(QC6 l x),(JP C)])) (.leaf (.bool true true) ([(JT l),(JN has l),(Vb x),(Jl many),(VF f),(QCP l),(JR l),(0,.frz KB
  x.d.ps.n fun i=>QA.enc (x.d.ps.get i)),(1,.frz KB x.scans.n fun i=>QA.enc (x.scans.get i)),(JU x),(JQ x),(JO C x),JV,(J6 f),(QC6 l x),(JP C)])))))
  (.br (i64.wrap (many+1)==100) (.leaf (.bool true false) ([(JT l),(JN has l),(Yb x),(Jl many),(VF f),(VB g),(JR l),(0,.frz KB x.d.ps.n fun i=>
  QA.enc (x.d.ps.get i)),(1,.frz KB x.scans.n fun i=>QA.enc (x.scans.get i)),(JU x),(JQ x),(JO C x),JV,(J6 f),(J8 g),(JP C)])) (.leaf (.bool true
  true) ([(JT l),(JN has l),(Vb x),(Jl many),(VF f),(VB g),(JR l),(0,.frz KB x.d.ps.n fun i=>QA.enc (x.d.ps.get i)),(1,.frz KB x.scans.n fun i=>
  QA.enc (x.scans.get i)),(JU x),(JQ x),(JO C x),JV,(J6 f),(J8 g),(JP C)]))))))) (.need (decide ((0:Int)≤(l.length:Int)∧(l.length:Int)<(C.length :
  Int))&&decide (C.length≤C.length)) (.need (decide (l.length<C.length)) (.ask (0=0) (.ask (0=0) (.ask (0=0) (.ask (0=0) (.ask (0=0) (.ask (0=0) (.ask (0=0) (.ask
  (0=0) (.ask (0=0) (.ask (0=0) (.ask (0=0) (.ask ((QJ C l.length).length=cs.length) (.ask (Cap.of 0=Cap.of 0) (.ask ((↑(QJ C l.length).length:Int)=(cs.length :
  Int)) (.ask ((0:Int)=0) (.ask (cs.length≤(QJ C l.length).length) (.ask (QC 2 cs.length (fun j=>QA.enc ((QJ C l.length).getD j ⟨0,0⟩)) fun i=>QA.enc (cs.getD i
  ⟨0,0⟩)) (.ask (0=0) (.ask (l.length=l.length) (.ask (Cap.of 0=Cap.of 0) (.ask (l.length≤l.length) (.ask (QC 2 l.length (fun i=>QA.enc (l.getD i ⟨0,0⟩)) fun i=>
  QA.enc (l.getD i ⟨0,0⟩)) (.ask (KA (.int true .i64 0) (.int true .i64 0) has has (fun i => .int false .i64 (QH l i)) fun i => .int false .i64 (QH l i)) (.ask
  (LoopState.ready=LoopState.ready) (.ask ((none:Option Code)=none) (.ask (Array.mk [(18:Tmp)]=Array.mk [(18:Tmp)]) (.ask ((QM Try.f25 0).1=(QM Try.f25 0).1)
  (.ask ((QM Try.f25 0).2=(QM Try.f25 0).2) (.ask (x.d.play.length=x.d.play.length) (.ask (x.d.play.slack=x.d.play.slack) (.ask (x.d.play.loose=x.d.play.loose) (.ask
  (x.d.play.damp.lo=x.d.play.damp.lo) (.ask (x.d.play.damp.hi=x.d.play.damp.hi) (.ask (x.d.wide=x.d.wide) (.ask (x.d.high=x.d.high) (.ask (x.d.turn=x.d.turn) (.ask (0=0)
  (.ask (x.d.ps.n=x.d.ps.n) (.ask (Cap.of 0=Cap.of 0) (.ask (0=0) (.ask (x.scans.n=x.scans.n) (.ask (Cap.of 0=Cap.of 0) (.ask (0=0) (.ask (x.hang.n=x.hang.n) (.ask
  (Cap.of 0=Cap.of 0) (.ask (x.lost=x.lost) (.ask (x.foreign=x.foreign) (.ask (0=0) (.ask (0=0) (.ask (0=0) (.ask (0=0) (.ask (0=0) (.ask (0=0) (.ask (0=0) (.ask
  (0=0) (.ask ((0:Int)=0) (.ask (0=0) (.ask (0=0) (.ask (0=0) (.ask (0=0) (.ask ((0:Int)=0) (.ask (x.d.play.length=x.d.play.length) (.ask (x.d.play.slack =
  x.d.play.slack) (.ask (x.d.play.loose=x.d.play.loose) (.ask (x.d.play.damp.lo=x.d.play.damp.lo) (.ask (x.d.play.damp.hi=x.d.play.damp.hi) (.ask (x.d.wide=x.d.wide) (.ask
  (x.d.high=x.d.high) (.ask (x.d.turn=x.d.turn) (.ask (0=0) (.ask (x.d.ps.n=x.d.ps.n) (.ask (Cap.of 0=Cap.of 0) (.ask (0=0) (.ask (x.scans.n=x.scans.n) (.ask (Cap.of 0 =
  Cap.of 0) (.ask (0=0) (.ask (x.hang.n=x.hang.n) (.ask (Cap.of 0=Cap.of 0) (.ask (x.lost=x.lost) (.ask (x.foreign=x.foreign) (.ask (0=0) (.ask (0=0) (.ask ((0:Int) =
  0) (.ask (0=0) (.ask (0=0) (.ask ((0:Int)=0) (.ask ((0:Int)=0) (.ask (false=false) (.ask (0=0) (.ask (0=0) (.ask (Fn.func (76:FuncId)=Fn.func (76:FuncId))
  (.ask (0=0) (.ask (0=0) (.ask (many=many) (.ask (0=0) (.ask (f.length=f.length) (.ask (Cap.of 0=Cap.of 0) (.ask (f.length≤f.length) (.ask (QC 2 f.length (fun i=>
  QA.enc (f.getD i ⟨0,0⟩)) fun i=>QA.enc (f.getD i ⟨0,0⟩)) (.ask (0=0) (.ask (g.length=g.length) (.ask (Cap.of 0=Cap.of 0) (.ask (g.length≤g.length) (.ask (QC 2
  g.length (fun i=>QA.enc (g.getD i ⟨0,0⟩)) fun i=>QA.enc (g.getD i ⟨0,0⟩)) (.ask (Fn.func (77:FuncId)=Fn.func (77:FuncId)) (.ask (0=0) (.ask (0=0) (.ask (0=0)
  (.ask (0=0) (.ask (0=0) (.ask (0=0) (.ask (0=0) (.ask (0=0) (.ask (0=0) (.ask (0=0) (.ask (0=0) (.ask (0=0) (.ask (x.d.play.length=x.d.play.length) (.ask
  (x.d.play.slack=x.d.play.slack) (.ask (x.d.play.loose=x.d.play.loose) (.ask (x.d.play.damp.lo=x.d.play.damp.lo) (.ask (x.d.play.damp.hi=x.d.play.damp.hi) (.ask (x.d.wide =
  x.d.wide) (.ask (x.d.high=x.d.high) (.ask (x.d.turn=x.d.turn) (.ask (0=0) (.ask (x.d.ps.n=x.d.ps.n) (.ask (Cap.of 0=Cap.of 0) (.ask (0=0) (.ask (x.scans.n=x.scans.n)
  (.ask (Cap.of 0=Cap.of 0) (.ask (0=0) (.ask (x.hang.n=x.hang.n) (.ask (Cap.of 0=Cap.of 0) (.ask (x.lost=x.lost) (.ask (x.foreign=x.foreign) (.ask (x.d.play.length =
  x.d.play.length) (.ask (x.d.play.slack=x.d.play.slack) (.ask (x.d.play.loose=x.d.play.loose) (.ask (x.d.play.damp.lo=x.d.play.damp.lo) (.ask (x.d.play.damp.hi =
  x.d.play.damp.hi) (.ask (x.d.wide=x.d.wide) (.ask (x.d.high=x.d.high) (.ask (x.d.turn=x.d.turn) (.ask (0=0) (.ask (x.d.ps.n=x.d.ps.n) (.ask (Cap.of 0=Cap.of 0) (.ask (0
  = 0) (.ask (x.scans.n=x.scans.n) (.ask (Cap.of 0=Cap.of 0) (.ask (0=0) (.ask (x.hang.n=x.hang.n) (.ask (Cap.of 0=Cap.of 0) (.ask (x.lost=x.lost) (.ask (x.foreign =
  x.foreign) (.ask (0=0) (.ask (C.length=C.length) (.ask (Cap.of 0=Cap.of 0) (.ask (C.length=C.length) (.ask (Kd 2 C.length (fun i=>(QJ C i).length) (fun i=>(QJ C
  i).length) (fun i j=>QA.enc ((QJ C i).getD j ⟨0,0⟩)) fun i j=>QA.enc ((QJ C i).getD j ⟨0,0⟩)) (.ask (x.d.ps.n≤x.d.ps.n) (.ask (QC 28 x.d.ps.n (fun i=>QA.enc
  (x.d.ps.get i)) fun i=>QA.enc (x.d.ps.get i)) (.ask (x.scans.n≤x.scans.n) (.ask (QC 28 x.scans.n (fun i=>QA.enc (x.scans.get i)) fun i=>QA.enc (x.scans.get i))
  (.ask (x.hang.n≤x.hang.n) (.ask (QC 4 x.hang.n (fun i=>QA.enc (x.hang.get i)) fun i=>QA.enc (x.hang.get i)) (.asm (True) (.all (fun(g0:Nat→Value) => .leaf (.bool
  false false) ((QLP f' g' has' l many'
  x))))))))))))))))))))))))))))))))))))))))))))))))))))))))))))))))))))))))))))))))))))))))))))))))))))))))))))))))))))))))))))))))))))))))))))))))))))))))))))))))))))))))))))):=by kernel_rfl
abbrev QNr:List Prop:=
  [0=0,f'.length=f'.length,cO=cO,f'.length≤f'.length,QC 2 f'.length (fun i=>QA.enc (f'.getD i ⟨0,0⟩)) fun i=>QA.enc (f'.getD i ⟨0,0⟩),0=0,
  g'.length=g'.length,cO=cO,g'.length≤g'.length,QC 2 g'.length (fun i=>QA.enc (g'.getD i ⟨0,0⟩)) fun i=>QA.enc (g'.getD i ⟨0,0⟩)]
theorem Qbw(f' g':List QB):QK 272 [(.bool false false)] ((QLP f' g' has' l many' x)) (Kk (trV x C (QM Try.f25 0).1 (QM Try.f25 0).2 l has many f g has' many' f' g'))=(some ([false=false] ++
  (QEj l)++[KA (.int true .i64 0) (.int true .i64 0) has' has' (fun i => .int false .i64 (QH l i)) fun i => .int false .i64 (QH l i)]++QLV++(XT x)++XW ++
  qK++XW++[(0:Int)=0]++(XT x)++jZ++[many'=many']++(QNr f' g'))):=by kernel_rfl
theorem QaB(f' g':List QB):QK 272 [(.bool true true)] ((QLc f' g' has' l many' x)) (Kk (trU x C (QM Try.f25 0).1 (QM Try.f25 0).2 l has many f g has' many' f' g'))=(some ([true=true] ++
  (QEj l)++[KA (.int true .i64 0) (.int true .i64 0) has' has' (fun i => .int false .i64 (QH l i)) fun i => .int false .i64 (QH l i),LoopState.ready=LoopState.ready,
  (none:Option Code)=none,Array.mk [18]=Array.mk [(18:Tmp)],(QM Try.f25 0).1=(QM Try.f25 0).1,(QM Try.f25 0).2=(QM Try.f25 0).2]++(XT x)++XW
  ++ qK++XW++[(0:Int)=0]++(XT x)++jZ++[many'=many']++(QNr f' g'))):=by kernel_rfl
noncomputable abbrev VH:Code:=(QM Try.f25 0).1
noncomputable abbrev VQ:Code:=(QM Try.f25 0).2
theorem QQa(ac body:Code)(l:List QB)(has:Int→Bool)(many:Int)(f g:List QB)(has':Int→Bool)(many':Int)(f' g':List QB):(trU x C ac body l has many f g has' many' f' g').Ok:=by
 refine⟨(by decide:240≤272),rfl,rfl,?_,rfl,fun _ _=>rfl,fun nid h => ?_⟩
 ·intro q hq;simp only[UC.po,trU,trW,rwL,List.mem_cons,List.not_mem_nil,or_false]at hq;rcases hq with rfl|rfl|rfl|rfl|rfl|rfl|rfl|rfl|rfl<;>refine⟨rfl,rfl,rfl,?_⟩<;>first|exact fun _=>rfl|exact fun h=>absurd (show 272<240 from h) (by decide)|exact fun h=>absurd (show 273<240 from h) (by decide)|exact fun h=>absurd (show 274<240 from h) (by decide)
 ·have e0:=Xn 240 272 0 nid (by decide)
  have e1:=Xn 240 272 1 nid (by decide)
  have e2:=Xn 240 272 2 nid (by decide)
  have l0:=zR (N:=240) (M:=272) (i:=0) (by decide) nid
  have l1:=zR (N:=240) (M:=272) (i:=1) (by decide) nid
  have l2:=zR (N:=240) (M:=272) (i:=2) (by decide) nid
  simp only[UC.po,trU,trW,rwL,qw,trT,Jt,Q3.val,List.map_cons,List.map_nil,Blk.mapId,AV.mapId,AV.mapIdL,Nat.add_zero,Nat.zero_add]at e0 e1 e2 l0 l1 l2 ⊢;rw[e0,e1,e2,l0,l1,l2];rfl
theorem QN5(ac body:Code)(l:List QB)(has:Int→Bool)(many:Int)(f g:List QB)(has':Int→Bool)(many':Int)(f' g':List QB):(trV x C ac body l has many f g has' many' f' g').Ok:=by
 refine⟨(by decide:240≤272),rfl,rfl,?_,rfl,fun _ _=>rfl,fun nid h => ?_⟩
 ·intro q hq;simp only[UC.po,trV,trW,rwL,List.mem_cons,List.not_mem_nil,or_false]at hq;rcases hq with rfl|rfl|rfl|rfl|rfl|rfl|rfl|rfl|rfl<;>refine⟨rfl,rfl,rfl,?_⟩<;>first|exact fun _=>rfl|exact fun h=>absurd (show 272<240 from h) (by decide)|exact fun h=>absurd (show 273<240 from h) (by decide)|exact fun h=>absurd (show 274<240 from h) (by decide)
 ·have e0:=Xn 240 272 0 nid (by decide)
  have e1:=Xn 240 272 1 nid (by decide)
  have e2:=Xn 240 272 2 nid (by decide)
  have l0:=zR (N:=240) (M:=272) (i:=0) (by decide) nid
  have l1:=zR (N:=240) (M:=272) (i:=1) (by decide) nid
  have l2:=zR (N:=240) (M:=272) (i:=2) (by decide) nid
  simp only[UC.po,trV,trW,rwL,qw,trT,Jt,Q3.val,List.map_cons,List.map_nil,Blk.mapId,AV.mapId,AV.mapIdL,Nat.add_zero,Nat.zero_add]at e0 e1 e2 l0 l1 l2 ⊢;rw[e0,e1,e2,l0,l1,l2];rfl
theorem QbN{x:QE}(hx:K7 x)(C:List (List QB))(hpos:0<x.scans.n){l:List QB}(hn:l.length=x.scans.n)(s:TrS)(h:Int→Bool):QQ Try.prog 77 (uFC (Ys x C VH VQ l h s (Jp x trY l s h))):=by
 obtain⟨many,f,g⟩:=s;have hs:=hx.s;have hd:=hx.d.n9;have hT:Qc (Z1 QS (clU l)):=Q6.add (QKX l (by omega) (by omega))
 have fin:∀(s':TrS),XE (jO (trU x C VH VQ l h many f g h s'.1 s'.2.1 s'.2.2)) (Jw (mkE Try.prog (Z1 QS (clU l))) (msN Try.prog (Z1 QS (clU l))) Try.f77 (trU x C VH VQ l h many f g h s'.1 s'.2.1 s'.2.2))→QQ Try.prog 77 (uFC (trU x C VH VQ l h many f g h s'.1 s'.2.1 s'.2.2)):=fun s' hd=>
  JZ (E:=mkE Try.prog (Z1 QS (clU l))) (QT hT) Try.func77 (by kernel_rfl) (by kernel_rfl) (QQa ..) (fun G h1 _=>He _ hT G h1) ⟨hd⟩
 have finV:∀(s':TrS),XE (jO (trV x C VH VQ l h many f g h s'.1 s'.2.1 s'.2.2)) (Jw (mkE Try.prog (Z1 QS (clU l))) (msN Try.prog (Z1 QS (clU l))) Try.f77 (trV x C VH VQ l h many f g h s'.1 s'.2.1 s'.2.2))→QQ Try.prog 77 (uFC (trV x C VH VQ l h many f g h s'.1 s'.2.1 s'.2.2)):=fun s' hd=>
  JZ (E:=mkE Try.prog (Z1 QS (clU l))) (QT hT) Try.func77 (by kernel_rfl) (by kernel_rfl) (QN5 ..) (fun G h1 _=>He _ hT G h1) ⟨hd⟩
 have he:=QDM (x:=x) (l:=l) (by omega) (by omega)
 cases hb:X2 x l with
 | true=>
  rw[hb]at he;simp only[Jp,hb,Ys];refine fin (many,f,g) (Q0 (QD4 QS x C l h many f g) ?_);refine QI (fun _=>QF rfl (QI (fun _ => ?_) (fun q=>Bool.noConfusion (show true=false from he.symm.trans q)))) (fun q=>by rw[hn]at q;simp at q)
  refine⟨rfl,rfl,_,QbM x C l h many f g,?_⟩
  repeat' first|with_reducible refine QN ?_ ?_|exact trivial|with_reducible rfl|exact qlr _|exact qRr|exact QZ _ _ _ _|exact K1 _ _ _|refine And.intro ?_ ?_
 | false=>
  rw[hb]at he;cases hq:(i64.wrap (many+1)==100)with
  | true=>
   have hend:Jp x trY l (many,f,g) h = .stop (i64.wrap (many+1),f,g) h:=by
    have:=eq_of_beq hq;simp only[Jp,hb,trY,Wo,Wa,this];rfl
   rw[hend];simp only[Ys];refine finV (i64.wrap (many+1),f,g) (Q0 (QD4 QS x C l h many f g) ?_);refine QI (fun _=>QF rfl (QI (fun q=>Bool.noConfusion (show true=false from q.symm.trans he)) (fun _ => ?_))) (fun q=>by rw[hn]at q;simp at q)
   refine QI (fun q=>by rw[eq_of_beq hq]at q;cases q) (fun _=>QI (fun q=>by rw[eq_of_beq hq]at q;cases q) (fun _=>QI (fun _ => ?_) (fun q=>by rw[hq]at q;cases q)))
   refine⟨rfl,rfl,_,QS2 x C l h many f g (i64.wrap (many+1)) f g,?_⟩
   repeat' first|with_reducible refine QN ?_ ?_|exact trivial|with_reducible rfl|exact qlr _|exact qRr|exact QZ _ _ _ _|exact K1 _ _ _|refine And.intro ?_ ?_
  | false=>
   have hend:Jp x trY l (many,f,g) h = .go (i64.wrap (many+1),Wo (i64.wrap (many+1)) l f,Wa (i64.wrap (many+1)) l g) h:=by
    simp only[Jp,hb,trY,hq];rfl
   rw[hend];simp only[Ys];refine fin (i64.wrap (many+1),Wo (i64.wrap (many+1)) l f,Wa (i64.wrap (many+1)) l g) (Q0 (QD4 QS x C l h many f g) ?_);refine QI (fun _=>QF rfl (QI (fun q=>Bool.noConfusion (show true=false from q.symm.trans he)) (fun _ => ?_))) (fun q=>by rw[hn]at q;simp at q)
   refine QI (fun q1=>QF (Q4.2 ?_) (QI (fun q=>by rw[hq]at q;cases q) (fun _ => ?_))) (fun q1=>QI (fun q2=>QF (Q4.2 ?_) (QI (fun q=>by rw[hq]at q;cases q) (fun _ => ?_))) (fun q2=>QI (fun q=>by rw[hq]at q;cases q) (fun _ => ?_)))
   ·repeat' first|with_reducible refine QN ?_ ?_|exact trivial|with_reducible rfl|exact qlr _|exact qRr|exact QZ _ _ _ _|refine And.intro ?_ ?_
   ·refine⟨rfl,rfl,_,QZx x C l h many f g _ _ _,?_⟩;simp only[Wo,Wa,q1]
    repeat' first|with_reducible refine QN ?_ ?_|exact trivial|with_reducible rfl|exact qlr _|exact qRr|exact QZ _ _ _ _|exact K1 _ _ _|exact rfl|refine And.intro ?_ ?_
   ·repeat' first|with_reducible refine QN ?_ ?_|exact trivial|with_reducible rfl|exact qlr _|exact qRr|exact QZ _ _ _ _|refine And.intro ?_ ?_
   ·refine⟨rfl,rfl,_,QZJ x C l h many f g _ _ _,?_⟩;simp only[Wo,Wa,q1,q2]
    repeat' first|with_reducible refine QN ?_ ?_|exact trivial|with_reducible rfl|exact qlr _|exact qRr|exact QZ _ _ _ _|exact K1 _ _ _|exact rfl|refine And.intro ?_ ?_
   ·refine⟨rfl,rfl,_,QXO x C l h many f g _ _ _,?_⟩;simp only[Wo,Wa,q1,q2]
    repeat' first|with_reducible refine QN ?_ ?_|exact trivial|with_reducible rfl|exact qlr _|exact qRr|exact QZ _ _ _ _|exact K1 _ _ _|exact rfl|refine And.intro ?_ ?_
theorem QdT{x:QE}(hx:K7 x){C:List (List QB)}{ac body:Code}{cs l:List QB}(hl:l.length<1000)(hls:∀ c∈l,K4 c)(hcs:∀ c∈cs,K4 c)(IH:∀ c∈cs,∀ s h,QQ Try.prog 77 (uFC (Ys x C ac body (l++[c]) h s (Vx x C d l s h c))))(t:TrK):(jE Try.prog x C ac body d cs l t).Sound:=by
 unfold jE kPb;split
 ·rename_i hk;have hk:=qdt hk;have hm:=jz (z:=(⟨0,0⟩:QB)) hk;refine Wu ((Q6.add (QCI x C _ hx (QAj (by simp) (by simp;omega) ?_))).add (IH _ hm _ _))
  intro c hc;rcases List.mem_append.1 hc with h|h
  ·exact hls c h
  ·rw[List.mem_singleton.1 h];exact hcs _ hm
 ·exact Wu ((Q6.add (Zt (by kernel_rfl) _)).add (Zt (by kernel_rfl) _))
theorem QJd{x:QE}(hx:K7 x){C:List (List QB)}(hC:Xt x C){ac body:Code}{l:List QB}(hl:l.length+(d+1)=x.scans.n)(hls:∀ c∈l,K4 c)(IH:∀ c∈QJ C l.length,∀ s h,QQ Try.prog 77 (uFC (Ys x C ac body (l++[c]) h s (Vx x C d l s h c))))(s:TrS)(h:Int→Bool){X:List (Prop×Ex×JSt)}(hX:∀ e J,V7 x C ac body d (QJ C l.length) l (0,s,h) e J→∃ y∈X,y.1∧y.2.1=e∧y.2.2=J)(G:Ctx)(hrd:G.rd=none)(hG:G.n=272):
  KH (mkE Try.prog Qn) G (trX Try.prog (trJ x C ac body (QJ C l.length) l h s.1 s.2.1 s.2.2 0) X) (Qr Try.f77):=by
 have hs:=hx.s;refine Jd (body:=Qd Try.f77 0) (QT Q6) hrd (by kernel_rfl) ?_
 have hE:=fun t=>QdT hx (C:=C) (ac:=ac) (body:=body) (d:=d) (cs:=QJ C l.length) (l:=l) (by omega) hls (hC.s _) IH t
 refine zx (E0:=mkE Try.prog Qn) (E:=jE Try.prog x C ac body d (QJ C l.length) l) (H:=fun t=>hnd (jE Try.prog x C ac body d (QJ C l.length) l t) 0) (n0:=272) (s0:=(0,s,h)) (fun _=>rfl) hE (by omega) (fun t _=>Qz (hE t) 0 G _ hrd) (fun t _=>(by decide:272≤320)) ?_ (QVk x C ac body d (QJ C l.length) l (hC.le _) (by omega)) (Nat.zero_le _) hX
 intro t e J hr;unfold V7 at hr;split at hr
 ·rw[hr.2];exact(by decide:272≤320)
 ·rw[hr.2];exact(by decide:272≤320)
theorem QVD{x:QE}(hx:K7 x){C:List (List QB)}(hC:Xt x C){l:List QB}(hl:l.length+(d+1)=x.scans.n)(hls:∀ c∈l,K4 c)(IH:∀ c∈QJ C l.length,∀ s h,QQ Try.prog 77 (uFC (Ys x C VH VQ (l++[c]) h s (Vx x C d l s h c))))(s:TrS)(h:Int→Bool):QQ Try.prog 77 (uFC (Ys x C VH VQ l h s (onT x C trY (d+1) l s h))):=by
 have hCn:=hC.n;cases he:onT x C trY (d+1) l s h with
 | go s' h'=>
  have hc:Jk (Kf x l (Vx x C d l)) (QJ C l.length) s h = .go s' h':=he;refine JZ (E:=mkE Try.prog Qn) (QT Q6) Try.func77 (by kernel_rfl) (by kernel_rfl) (QQa ..) (QJd hx hC hl hls IH s h (X:=[(True,.exit 0,trE x VH VQ l h' s'.1 s'.2.1 s'.2.2)]) ?_) ⟨?_⟩
  ·intro e J hr;unfold V7 at hr;simp only[List.drop_zero,hc]at hr;exact⟨_,List.mem_cons_self,trivial,hr.1.symm,hr.2.symm⟩
  ·refine Q0 (QSZ x C (QJ C l.length) l h s.1 s.2.1 s.2.2 h' s'.1 s'.2.1 s'.2.2) ?_;refine QI (fun q=>by simp at q;omega) (fun _=>QF (by simp;omega) (QF (by simp;omega) ?_))
   repeat' first|refine Qb (p:=_=_) rfl ?_|refine Qb (p:=_≤_) (qlr _) ?_|refine Qb (p:=QC _ _ _ _) (qRr) ?_|refine Qb (p:=Kd _ _ _ _ _ _) (QZ _ _ _ _) ?_|refine Qb (p:=KA _ _ _ _ _ _) (K1 _ _ _) ?_
   refine KO fun _=>KK fun g=>⟨rfl,rfl,_,QaB x C l h s.1 s.2.1 s.2.2 h' s'.1 s'.2.1 s'.2.2,?_⟩
   repeat' first|with_reducible refine QN ?_ ?_|exact trivial|with_reducible rfl|exact qlr _|exact qRr|exact QZ _ _ _ _|exact K1 _ _ _|refine And.intro ?_ ?_
 | stop s' h'=>
  have hc:Jk (Kf x l (Vx x C d l)) (QJ C l.length) s h = .stop s' h':=he;refine JZ (E:=mkE Try.prog Qn) (QT Q6) Try.func77 (by kernel_rfl) (by kernel_rfl) (QN5 ..) (QJd hx hC hl hls IH s h (X:=[(True,.ret,trF x VH VQ l h' s'.1 s'.2.1 s'.2.2)]) ?_) ⟨?_⟩
  ·intro e J hr;unfold V7 at hr;simp only[List.drop_zero,hc]at hr;exact⟨_,List.mem_cons_self,trivial,hr.1.symm,hr.2.symm⟩
  ·refine Q0 (QVR x C (QJ C l.length) l h s.1 s.2.1 s.2.2 h' s'.1 s'.2.1 s'.2.2) ?_;refine QI (fun q=>by simp at q;omega) (fun _=>QF (by simp;omega) (QF (by simp;omega) ?_))
   repeat' first|refine Qb (p:=_=_) rfl ?_|refine Qb (p:=_≤_) (qlr _) ?_|refine Qb (p:=QC _ _ _ _) (qRr) ?_|refine Qb (p:=Kd _ _ _ _ _ _) (QZ _ _ _ _) ?_|refine Qb (p:=KA _ _ _ _ _ _) (K1 _ _ _) ?_
   refine KO fun _=>KK fun g=>⟨rfl,rfl,_,Qbw x C l h s.1 s.2.1 s.2.2 h' s'.1 s'.2.1 s'.2.2,?_⟩
   repeat' first|with_reducible refine QN ?_ ?_|exact trivial|with_reducible rfl|exact qlr _|exact qRr|exact QZ _ _ _ _|exact K1 _ _ _|refine And.intro ?_ ?_
theorem QQM{x:QE}(hx:K7 x){C:List (List QB)}(hC:Xt x C)(hpos:0<x.scans.n):∀(d:Nat) (l:List QB) (s:TrS) (h:Int→Bool),l.length+d=x.scans.n→(∀ c∈l,K4 c)→QQ Try.prog 77 (uFC (Ys x C VH VQ l h s (onT x C trY d l s h)))
 | 0,l,s,h,hn,_=>QbN hx C hpos (by omega) s h
 | d+1,l,s,h,hn,hl=>QVD hx hC (by omega) hl (fun c hc s h=>QQM hx hC hpos d (l++[c]) s h (by simp;omega) (fun y hy=>by
   rcases List.mem_append.1 hy with q|q
   ·exact hl y q
   ·rw[List.mem_singleton.1 q];exact hC.s _ c hc)) s h
end Go.Proofs.Ytbpffdkemeoajaa
