/- Told: the search, a round (layer 7). -/
import Derived.Test.YtbpffdkemeoajaaMmzc
set_option maxRecDepth 100000
namespace Go.Proofs.Ytbpffdkemeoajaa
open Go.SX
abbrev TdS:=Int×Int×List QA×Int×Int
def tdY (s:TdS) (l:List QA):TdS×Bool:=((IntKind.i64.wrap (s.1 + 1),IntKind.i64.wrap (s.2.1 + 1),Qz s.2.1 l s.2.2.1,mvL l (Qz s.2.1 l s.2.2.1) s.2.2.2.1 l.length,tuL l (Qz s.2.1 l s.2.2.1) s.2.2.2.2 l.length),true)
def J2 (x:QE) (s:TdS):Prop:=((s.2.1 == 0)=false→s.2.2.1.length=x.scans.n)
theorem QRX {x:QE} {s:TdS} {l:List QA} (hs:J2 x s) (hn:l.length=x.scans.n):J2 x (tdY s l).1:=by
 intro _
 show (Qz s.2.1 l s.2.2.1).length=x.scans.n
 unfold Qz
 split
 ·exact hn
 ·rename_i q;exact hs q
def Xk (x:QE) (C:List (List QA)) (ac body:Code) (l:List QA) (has:Int→Bool) (s:TdS):Res TdS→UC
 | .go s' h'=>tdU x C ac body l has s.1 s.2.1 s.2.2.1 s.2.2.2.1 s.2.2.2.2 h' s'.1 s'.2.1 s'.2.2.1 s'.2.2.2.1 s'.2.2.2.2
 | .stop s' h'=>tdU x C ac body l has s.1 s.2.1 s.2.2.1 s.2.2.2.1 s.2.2.2.2 h' s'.1 s'.2.1 s'.2.2.1 s'.2.2.2.1 s'.2.2.2.2
abbrev TdK:=Nat×TdS×(Int→Bool)
open Classical in
noncomputable def ZE (x:QE) (cs:List QA) (k:Nat) (s:TdS):List Prop→Bool:=if k < cs.length∧J2 x s then Qo else fun _=>false
def V3 (x:QE) (C:List (List QA)) (d:Nat) (l:List QA) (s:TdS) (h:Int→Bool) (c:QA):Res TdS:=onT x C tdY d (l++[c]) s h
noncomputable def Zs (P:Program) (x:QE) (C:List (List QA)) (ac body:Code) (d:Nat) (cs l:List QA) (t:TdK):Env:=
 mkE P (qO (ZE x cs t.1 t.2.1) (ZE x cs t.1 t.2.1) x C (l++[cs.getD t.1 ⟨0,0⟩]) (Xk x C ac body (l++[cs.getD t.1 ⟨0,0⟩]) (Qh (cs.getD t.1 ⟨0,0⟩).cell true t.2.2) t.2.1 (V3 x C d l t.2.1 (Qh (cs.getD t.1 ⟨0,0⟩).cell true t.2.2) (cs.getD t.1 ⟨0,0⟩))))
def ZC (x:QE) (C:List (List QA)) (ac body:Code) (d:Nat) (cs l:List QA) (t:TdK) (e:Ex) (J:JSt):Prop:=match Jd (JN x l (V3 x C d l)) (cs.drop t.1) t.2.1 t.2.2 with
 | .go s h=>e = .exit 0∧J=tdE ac body l h s.1 s.2.1 s.2.2.1 s.2.2.2.1 s.2.2.2.2
 | .stop _ _=>False
set_option maxHeartbeats 1600000 in
theorem QNS (x:QE) (C:List (List QA)) (ac body:Code) (d:Nat) (cs l:List QA) (hcs:cs.length≤1000) (hl:l.length≤1000) (hn:l.length + 1 + d=x.scans.n):vF (fun t:TdK=>tdJ x C ac body cs l t.2.2 t.2.1.1 t.2.1.2.1 t.2.1.2.2.1 t.2.1.2.2.2.1 t.2.1.2.2.2.2 t.1) (fun t=>t.1≤cs.length∧J2 x t.2.1) (fun t=>cs.length - t.1) (ZC x C ac body d cs l) 360 Hz qr (Zs Try.prog x C ac body d cs l) (fun t=>hnd (Zs Try.prog x C ac body d cs l t) 0) (Qf Try.f77 0):=by
 refine ⟨fun t g hk => ?_⟩
 obtain ⟨k,⟨many,n,f,moved,turned⟩,has⟩:=t
 obtain ⟨hk,hgd⟩:=hk
 have hk:k≤cs.length:=hk
 have hgd:J2 x (many,n,f,moved,turned):=hgd
 obtain ⟨s',h',hrec⟩:=Za (C:=C) (x:=x) (Y:=tdY) (fun _ _=>rfl) d (l++[cs.getD k ⟨0,0⟩]) (many,n,f,moved,turned) (Qh (cs.getD k ⟨0,0⟩).cell true has)
 have hgd':J2 x s':=QA6 (G:=J2 x) (fun s l hs hn=>QRX hs hn) d _ _ _ (by simp;omega) hgd hrec
 unfold Zs
 simp only
 have hrec:V3 x C d l (many,n,f,moved,turned) (Qh (cs.getD k ⟨0,0⟩).cell true has) (cs.getD k ⟨0,0⟩) = .go s' h':=hrec
 rw [hrec]
 refine KF (QS7 (ZE x cs k (many,n,f,moved,turned)) (ZE x cs k (many,n,f,moved,turned)) x C ac body cs l (l++[cs.getD k ⟨0,0⟩]) has (Qh (cs.getD k ⟨0,0⟩).cell true has) many n f moved turned k h' s'.1 s'.2.1 s'.2.2.1 s'.2.2.2.1 s'.2.2.2.2 g) ?_
 refine QL (fun h => ?_) (fun h => ?_)
 ·have h:k < cs.length:=by have:=of_decide_eq_true h;omega
  have hw:=Xo h hcs
  have hpb:ZE x cs k (many,n,f,moved,turned)=Qo:=by unfold ZE;rw [if_pos ⟨h,hgd⟩]
  rw [hpb]
  have step:=QIj (f:=JN x l (V3 x C d l)) h (many,n,f,moved,turned) has
  have next:∀ {s2:TdS} {h2:Int→Bool},JN x l (V3 x C d l) (many,n,f,moved,turned) has (cs.getD k ⟨0,0⟩) = .go s2 h2→∀ e J,ZC x C ac body d cs l (k + 1,s2,h2) e J→ZC x C ac body d cs l (k,(many,n,f,moved,turned),has) e J:=by
   intro s2 h2 he e J hr
   unfold ZC at hr ⊢
   simp only at hr ⊢
   rw [step,he];exact hr
  have one:∀ b,KN x l (cs.getD k ⟨0,0⟩)=b→JN x l (V3 x C d l) (many,n,f,moved,turned) has (cs.getD k ⟨0,0⟩)=match b with
    | true => .go (many,n,f,moved,turned) has
    | false=>match Kk x (l++[cs.getD k ⟨0,0⟩]) with
     | false => .go (many,n,f,moved,turned) (Qh (cs.getD k ⟨0,0⟩).cell true (Qh (cs.getD k ⟨0,0⟩).cell true has))
     | true => .go s' (Qh (cs.getD k ⟨0,0⟩).cell true h'):=by
   intro b hb
   unfold JN
   rw [hb,hrec]
   cases b
   ·cases Kk x (l++[cs.getD k ⟨0,0⟩])<;>rfl
   ·rfl
  refine QF (by simp;omega) (QF (by simp;omega) (QL (fun ha => ?_) (fun ha => ?_)))
  ·refine QF rfl (QL (fun hf => ?_) (fun hf=>QF (by simp;omega) (QF rfl (QF (Kr.2 ?_) (QL (fun hq => ?_) (fun hq => ?_))))))
   ·have hf:KN x l (cs.getD k ⟨0,0⟩)=true:=by simp only [KN,ha];exact hf
    refine ⟨(k + 1,(many,n,f,moved,turned),has),⟨h,hgd⟩,by show cs.length - (k + 1) < cs.length - k;omega,next (one _ hf),rfl,rfl,_,QDy x C ac body cs l has many n f moved turned k (k + 1),?_⟩
    repeat' first|exact trivial|with_reducible rfl|exact Nat.le_refl _|exact QD.refl _ _ _|exact Qp _ _ _ _|exact VN _ _ _|exact hw|refine And.intro ?_ ?_
   ·repeat' first|exact trivial|with_reducible rfl|exact Nat.le_refl _|exact QD.refl _ _ _|exact Qp _ _ _ _|exact YK _ _|exact YP _ _|exact Yv _ _ _ rfl|refine And.intro ?_ ?_
   ·have hf:KN x l (cs.getD k ⟨0,0⟩)=false:=by simp only [KN,ha];exact hf
    have hq:Kk x (l++[cs.getD k ⟨0,0⟩])=false:=by simpa using hq
    have hp:=Ht l hl
    have hp1:IntKind.i64.wrap (((l.length + 1:Nat):Int) - 1)=l.length:=(w64 (by omega) (by omega)).trans (by omega)
    have ho:=one _ hf
    rw [hq] at ho
    refine QF (by simp [isI]) (QF (by rw [hp1];simp) ?_)
    refine ⟨(k + 1,(many,n,f,moved,turned),Qh (cs.getD k ⟨0,0⟩).cell true (Qh (cs.getD k ⟨0,0⟩).cell true has)),⟨h,hgd⟩,by show cs.length - (k + 1) < cs.length - k;omega,next ho,rfl,rfl,_,QT5 x C ac body cs l has (Qh (cs.getD k ⟨0,0⟩).cell true (Qh (cs.getD k ⟨0,0⟩).cell true has)) many n f moved turned k (k + 1),?_⟩
    repeat' first|exact trivial|with_reducible rfl|exact Nat.le_refl _|exact QD.refl _ _ _|exact Qp _ _ _ _|exact hw|exact hp|exact Nat.le_succ _|exact H9 _ _|exact zw _ _ _ hl (by simp [toI];rfl) _|refine And.intro ?_ ?_
   ·have hf:KN x l (cs.getD k ⟨0,0⟩)=false:=by simp only [KN,ha];exact hf
    have hq:Kk x (l++[cs.getD k ⟨0,0⟩])=true:=by simpa using hq
    have hp:=GA l (cs.getD k ⟨0,0⟩) hl
    have hp1:IntKind.i64.wrap (((l++[cs.getD k ⟨0,0⟩]).length:Int) - 1)=l.length:=by
     rw [List.length_append,List.length_singleton]
     exact (w64 (by omega) (by omega)).trans (by omega)
    have ho:=one _ hf
    rw [hq] at ho
    refine QF (Kr.2 ?_) (QF rfl (QF (by rw [hp1];simp) (QL (fun q=>by cases q) (fun _ => ?_))))
    ·repeat' first|exact trivial|with_reducible rfl|exact Nat.le_refl _|exact QD.refl _ _ _|exact Qp _ _ _ _|exact YK _ _|exact YP _ _|exact Yv _ _ _ rfl|exact Hi _ _ hl rfl _|refine And.intro ?_ ?_
    refine ⟨(k + 1,s',Qh (cs.getD k ⟨0,0⟩).cell true h'),⟨h,hgd'⟩,by show cs.length - (k + 1) < cs.length - k;omega,next ho,rfl,rfl,_,QNK x C ac body cs l (l++[cs.getD k ⟨0,0⟩]) k h' (Qh (cs.getD k ⟨0,0⟩).cell true h') s'.1 s'.2.1 s'.2.2.1 s'.2.2.2.1 s'.2.2.2.2 (k + 1),?_⟩
    repeat' first|exact trivial|with_reducible rfl|exact Nat.le_refl _|exact QD.refl _ _ _|exact Qp _ _ _ _|exact hw|exact hp|exact (by simp:l.length≤(l++[cs.getD k ⟨0,0⟩]).length)|exact HK _ _|exact Gc _ _ hl rfl _|refine And.intro ?_ ?_
  ·refine QF rfl (QL (fun hf => ?_) (fun hf=>QF (by simp;omega) (QF rfl (QF (Kr.2 ?_) (QL (fun hq => ?_) (fun hq => ?_))))))
   ·have hf:KN x l (cs.getD k ⟨0,0⟩)=true:=by simp only [KN,ha];exact hf
    refine ⟨(k + 1,(many,n,f,moved,turned),has),⟨h,hgd⟩,by show cs.length - (k + 1) < cs.length - k;omega,next (one _ hf),rfl,rfl,_,QDy x C ac body cs l has many n f moved turned k (k + 1),?_⟩
    repeat' first|exact trivial|with_reducible rfl|exact Nat.le_refl _|exact QD.refl _ _ _|exact Qp _ _ _ _|exact VN _ _ _|exact hw|refine And.intro ?_ ?_
   ·repeat' first|exact trivial|with_reducible rfl|exact Nat.le_refl _|exact QD.refl _ _ _|exact Qp _ _ _ _|exact YK _ _|exact YP _ _|exact Yv _ _ _ rfl|refine And.intro ?_ ?_
   ·have hf:KN x l (cs.getD k ⟨0,0⟩)=false:=by simp only [KN,ha];exact hf
    have hq:Kk x (l++[cs.getD k ⟨0,0⟩])=false:=by simpa using hq
    have hp:=Ht l hl
    have hp1:IntKind.i64.wrap (((l.length + 1:Nat):Int) - 1)=l.length:=(w64 (by omega) (by omega)).trans (by omega)
    have ho:=one _ hf
    rw [hq] at ho
    refine QF (by simp [isI]) (QF (by rw [hp1];simp) ?_)
    refine ⟨(k + 1,(many,n,f,moved,turned),Qh (cs.getD k ⟨0,0⟩).cell true (Qh (cs.getD k ⟨0,0⟩).cell true has)),⟨h,hgd⟩,by show cs.length - (k + 1) < cs.length - k;omega,next ho,rfl,rfl,_,QRQ x C ac body cs l has (Qh (cs.getD k ⟨0,0⟩).cell true (Qh (cs.getD k ⟨0,0⟩).cell true has)) many n f moved turned k (k + 1),?_⟩
    repeat' first|exact trivial|with_reducible rfl|exact Nat.le_refl _|exact QD.refl _ _ _|exact Qp _ _ _ _|exact hw|exact hp|exact Nat.le_succ _|exact H9 _ _|exact zw _ _ _ hl (by simp [toI];rfl) _|refine And.intro ?_ ?_
   ·have hf:KN x l (cs.getD k ⟨0,0⟩)=false:=by simp only [KN,ha];exact hf
    have hq:Kk x (l++[cs.getD k ⟨0,0⟩])=true:=by simpa using hq
    have hp:=GA l (cs.getD k ⟨0,0⟩) hl
    have hp1:IntKind.i64.wrap (((l++[cs.getD k ⟨0,0⟩]).length:Int) - 1)=l.length:=by
     rw [List.length_append,List.length_singleton]
     exact (w64 (by omega) (by omega)).trans (by omega)
    have ho:=one _ hf
    rw [hq] at ho
    refine QF (Kr.2 ?_) (QF rfl (QF (by rw [hp1];simp) (QL (fun q=>by cases q) (fun _ => ?_))))
    ·repeat' first|exact trivial|with_reducible rfl|exact Nat.le_refl _|exact QD.refl _ _ _|exact Qp _ _ _ _|exact YK _ _|exact YP _ _|exact Yv _ _ _ rfl|exact Hi _ _ hl rfl _|refine And.intro ?_ ?_
    refine ⟨(k + 1,s',Qh (cs.getD k ⟨0,0⟩).cell true h'),⟨h,hgd'⟩,by show cs.length - (k + 1) < cs.length - k;omega,next ho,rfl,rfl,_,QS6 x C ac body cs l (l++[cs.getD k ⟨0,0⟩]) k h' (Qh (cs.getD k ⟨0,0⟩).cell true h') s'.1 s'.2.1 s'.2.2.1 s'.2.2.2.1 s'.2.2.2.2 (k + 1),?_⟩
    repeat' first|exact trivial|with_reducible rfl|exact Nat.le_refl _|exact QD.refl _ _ _|exact Qp _ _ _ _|exact hw|exact hp|exact (by simp:l.length≤(l++[cs.getD k ⟨0,0⟩]).length)|exact HK _ _|exact Gc _ _ hl rfl _|refine And.intro ?_ ?_
 ·have h:cs.length≤k:=by have:=of_decide_eq_false h;omega
  have he:=QIp (f:=JN x l (V3 x C d l)) h (many,n,f,moved,turned) has
  refine ⟨tdE ac body l has many n f moved turned,by unfold ZC;simp only [he,and_self],rfl,rfl,_,QTV x C ac body l has many n f moved turned,?_⟩
  repeat' first|exact trivial|with_reducible rfl|exact Nat.le_refl _|exact QD.refl _ _ _|exact Qp _ _ _ _|exact VN _ _ _|refine And.intro ?_ ?_
end Go.Proofs.Ytbpffdkemeoajaa
namespace Go.Proofs.Ytbpffdkemeoajaa
open Go.SX
def Wd (pb:List Prop→Bool) (U:UC):Tab:=QX Qu 62 (Ji pb U)
abbrev tdX (P:Program) (J:JSt) (X:List (Prop×Ex×JSt)):Hnd:={ hnd (mkE P Qu) 2 with loop:=fun _=>KC 360 qr J X }
theorem QFq (pb:List Prop→Bool) (x:QE) (C:List (List QA)) (l:List QA) (has:Int→Bool) (many n:Int) (f:List QA) (moved turned:Int) (f2:List QA) (m2 t2:Int):(Vr (mkE Try.prog (Wd pb (tmU l f n moved turned f2 m2 t2))) (msN Try.prog (Wd pb (tmU l f n moved turned f2 m2 t2))) Try.f77 QAz (zE x C (QQ Try.f53 0).1 (QQ Try.f53 0).2 l has many n f moved turned).hp 360 fun v h _=>qR qr v h) =
  QC.br ((↑l.length : Int) == (↑x.scans.n : Int)) (QC.need (isI IntKind.i64 (AV.int false IntKind.i64 (QI l (-2 : Int)))) (QC.br (decide (IntKind.i64.wrap ((↑x.d.ps.n : Int) - IntKind.i64.wrap ((↑l.length : Int) - toI (AV.int false IntKind.i64 (QI l (-2 : Int))))) > x.lost)) (QC.leaf (AV.bool true true) ([((296 : Nat), Blk.cells (0 : Nat) (38 : Nat) [AV.slz (344 : Nat) (0 : Nat) l.length (Cap.of (0 : Nat))]), ((272 : Nat), Blk.mpf IntKind.i64 (AV.int true IntKind.i64 (0 : Int)) has fun i => AV.int false IntKind.i64 (QI l i)), ((257 : Nat), Blk.lp LoopState.ready none tdT (Array.mk [(12 : Nat)]) (QQ Try.f53 0).1 (QQ Try.f53 0).2), ((200 : Nat), Blk.cells (0 : Nat) (3 : Nat) [AV.int false IntKind.i64 many]), ((168 : Nat), Blk.cells (0 : Nat) (3 : Nat) [AV.int false IntKind.i64 n]), ((120 : Nat), Blk.cells (0 : Nat) (38 : Nat) [AV.slz (352 : Nat) (0 : Nat) f.length (Cap.of (0 : Nat))]), ((112 : Nat), Blk.cells (0 : Nat) (92 : Nat) [AV.int false IntKind.i64 moved]), ((104 : Nat), Blk.cells (0 : Nat) (92 : Nat) [AV.int false IntKind.i64 turned]), ((344 : Nat), Blk.rowz true (56 : Nat) [CK.int IntKind.i64, CK.int IntKind.i64] l.length fun i => QB.enc (l.getD i (QA.mk (0 : Int) (0 : Int)))), ((40 : Nat), Blk.cellsR (0 : Nat) (125 : Nat) [AV.int false IntKind.i64 x.d.play.length, AV.int false IntKind.i64 x.d.play.slack, AV.int false IntKind.i64 x.d.play.loose, AV.int false IntKind.i64 x.d.play.damp.lo, AV.int false IntKind.i64 x.d.play.damp.hi, AV.int false IntKind.i64 x.d.wide, AV.int false IntKind.i64 x.d.high, AV.bool false x.d.turn, AV.slz (0 : Nat) (0 : Nat) x.d.ps.n (Cap.of (0 : Nat)), AV.slz (1 : Nat) (0 : Nat) x.scans.n (Cap.of (0 : Nat)), AV.slz (2 : Nat) (0 : Nat) x.hang.n (Cap.of (0 : Nat)), AV.int false IntKind.i64 x.lost, AV.int false IntKind.i64 x.foreign, AV.slz (41 : Nat) (0 : Nat) C.length (Cap.of (0 : Nat))]), ((176 : Nat), Blk.cellsR (0 : Nat) (101 : Nat) [AV.fn (Fn.func (62 : Nat)) [AV.ptr (120 : Nat) (0 : Nat) (0 : Nat), AV.ptr (112 : Nat) (0 : Nat) (0 : Nat), AV.ptr (104 : Nat) (0 : Nat) (0 : Nat)]]), ((224 : Nat), Blk.cellsR (0 : Nat) (89 : Nat) [AV.ptr (40 : Nat) (0 : Nat) (0 : Nat)]), ((352 : Nat), Blk.rowz true (56 : Nat) [CK.int IntKind.i64, CK.int IntKind.i64] f.length fun i => QB.enc (f.getD i (QA.mk (0 : Int) (0 : Int)))), ((0 : Nat), Blk.frz [CK.int IntKind.i64, CK.int IntKind.i64, CK.int IntKind.i64, CK.int IntKind.i64, CK.int IntKind.i64, CK.int IntKind.i64, CK.int IntKind.i64, CK.int IntKind.i64, CK.int IntKind.i64, CK.int IntKind.i64, CK.int IntKind.i64, CK.int IntKind.i64, CK.int IntKind.i64, CK.int IntKind.i64, CK.int IntKind.i64, CK.int IntKind.i64, CK.int IntKind.i64, CK.int IntKind.i64, CK.int IntKind.i64, CK.int IntKind.i64, CK.int IntKind.i64, CK.int IntKind.i64, CK.int IntKind.i64, CK.int IntKind.i64, CK.int IntKind.i64, CK.int IntKind.i64, CK.int IntKind.i64, CK.int IntKind.i64] x.d.ps.n fun i => QB.enc (x.d.ps.get i)), ((1 : Nat), Blk.frz [CK.int IntKind.i64, CK.int IntKind.i64, CK.int IntKind.i64, CK.int IntKind.i64, CK.int IntKind.i64, CK.int IntKind.i64, CK.int IntKind.i64, CK.int IntKind.i64, CK.int IntKind.i64, CK.int IntKind.i64, CK.int IntKind.i64, CK.int IntKind.i64, CK.int IntKind.i64, CK.int IntKind.i64, CK.int IntKind.i64, CK.int IntKind.i64, CK.int IntKind.i64, CK.int IntKind.i64, CK.int IntKind.i64, CK.int IntKind.i64, CK.int IntKind.i64, CK.int IntKind.i64, CK.int IntKind.i64, CK.int IntKind.i64, CK.int IntKind.i64, CK.int IntKind.i64, CK.int IntKind.i64, CK.int IntKind.i64] x.scans.n fun i => QB.enc (x.scans.get i)), ((2 : Nat), Blk.frz [CK.int IntKind.i64, CK.int IntKind.i64, CK.int IntKind.i64, CK.int IntKind.i64] x.hang.n fun i => QB.enc (x.hang.get i)), ((41 : Nat), Blk.frz2 false (38 : Nat) [CK.int IntKind.i64, CK.int IntKind.i64] C.length (fun i => (QJ C i).length) fun i j => QB.enc ((QJ C i).getD j (QA.mk (0 : Int) (0 : Int))))])) (QC.need (pb ([n = n, (0 : Nat) = (0 : Nat), l.length = l.length, Cap.of (0 : Nat) = Cap.of (0 : Nat), (0 : Nat) = (0 : Nat), (0 : Nat) = (0 : Nat), (0 : Nat) = (0 : Nat), (0 : Nat) = (0 : Nat), (0 : Nat) = (0 : Nat), (0 : Nat) = (0 : Nat), l.length ≤ l.length, QD (2 : Nat) l.length (fun i => QB.enc (l.getD i (QA.mk (0 : Int) (0 : Int)))) fun i => QB.enc (l.getD i (QA.mk (0 : Int) (0 : Int))), (0 : Nat) = (0 : Nat), f.length = f.length, Cap.of (0 : Nat) = Cap.of (0 : Nat), f.length ≤ f.length, QD (2 : Nat) f.length (fun i => QB.enc (f.getD i (QA.mk (0 : Int) (0 : Int)))) fun i => QB.enc (f.getD i (QA.mk (0 : Int) (0 : Int))), moved = moved, turned = turned])) (QC.leaf (AV.bool true true) ([((296 : Nat), Blk.cells (0 : Nat) (38 : Nat) [AV.slz (344 : Nat) (0 : Nat) l.length (Cap.of (0 : Nat))]), ((272 : Nat), Blk.mpf IntKind.i64 (AV.int true IntKind.i64 (0 : Int)) has fun i => AV.int false IntKind.i64 (QI l i)), ((257 : Nat), Blk.lp LoopState.ready none tdT (Array.mk [(12 : Nat)]) (QQ Try.f53 0).1 (QQ Try.f53 0).2), ((200 : Nat), Blk.cells (0 : Nat) (3 : Nat) [AV.int false IntKind.i64 (IntKind.i64.wrap (many + (1 : Int)))]), ((168 : Nat), Blk.cells (0 : Nat) (3 : Nat) [AV.int false IntKind.i64 (IntKind.i64.wrap (n + (1 : Int)))]), ((120 : Nat), Blk.cells (0 : Nat) (38 : Nat) [AV.slz (664 : Nat) (0 : Nat) f2.length (Cap.of (0 : Nat))]), ((112 : Nat), Blk.cells (0 : Nat) (92 : Nat) [AV.int false IntKind.i64 m2]), ((104 : Nat), Blk.cells (0 : Nat) (92 : Nat) [AV.int false IntKind.i64 t2]), ((344 : Nat), Blk.rowz true (56 : Nat) [CK.int IntKind.i64, CK.int IntKind.i64] l.length fun i => QB.enc (l.getD i (QA.mk (0 : Int) (0 : Int)))), ((40 : Nat), Blk.cellsR (0 : Nat) (125 : Nat) [AV.int false IntKind.i64 x.d.play.length, AV.int false IntKind.i64 x.d.play.slack, AV.int false IntKind.i64 x.d.play.loose, AV.int false IntKind.i64 x.d.play.damp.lo, AV.int false IntKind.i64 x.d.play.damp.hi, AV.int false IntKind.i64 x.d.wide, AV.int false IntKind.i64 x.d.high, AV.bool false x.d.turn, AV.slz (0 : Nat) (0 : Nat) x.d.ps.n (Cap.of (0 : Nat)), AV.slz (1 : Nat) (0 : Nat) x.scans.n (Cap.of (0 : Nat)), AV.slz (2 : Nat) (0 : Nat) x.hang.n (Cap.of (0 : Nat)), AV.int false IntKind.i64 x.lost, AV.int false IntKind.i64 x.foreign, AV.slz (41 : Nat) (0 : Nat) C.length (Cap.of (0 : Nat))]), ((176 : Nat), Blk.cellsR (0 : Nat) (101 : Nat) [AV.fn (Fn.func (62 : Nat)) [AV.ptr (120 : Nat) (0 : Nat) (0 : Nat), AV.ptr (112 : Nat) (0 : Nat) (0 : Nat), AV.ptr (104 : Nat) (0 : Nat) (0 : Nat)]]), ((224 : Nat), Blk.cellsR (0 : Nat) (89 : Nat) [AV.ptr (40 : Nat) (0 : Nat) (0 : Nat)]), ((664 : Nat), Blk.rowz true (56 : Nat) [CK.int IntKind.i64, CK.int IntKind.i64] f2.length fun i => QB.enc (f2.getD i (QA.mk (0 : Int) (0 : Int)))), ((0 : Nat), Blk.frz [CK.int IntKind.i64, CK.int IntKind.i64, CK.int IntKind.i64, CK.int IntKind.i64, CK.int IntKind.i64, CK.int IntKind.i64, CK.int IntKind.i64, CK.int IntKind.i64, CK.int IntKind.i64, CK.int IntKind.i64, CK.int IntKind.i64, CK.int IntKind.i64, CK.int IntKind.i64, CK.int IntKind.i64, CK.int IntKind.i64, CK.int IntKind.i64, CK.int IntKind.i64, CK.int IntKind.i64, CK.int IntKind.i64, CK.int IntKind.i64, CK.int IntKind.i64, CK.int IntKind.i64, CK.int IntKind.i64, CK.int IntKind.i64, CK.int IntKind.i64, CK.int IntKind.i64, CK.int IntKind.i64, CK.int IntKind.i64] x.d.ps.n fun i => QB.enc (x.d.ps.get i)), ((1 : Nat), Blk.frz [CK.int IntKind.i64, CK.int IntKind.i64, CK.int IntKind.i64, CK.int IntKind.i64, CK.int IntKind.i64, CK.int IntKind.i64, CK.int IntKind.i64, CK.int IntKind.i64, CK.int IntKind.i64, CK.int IntKind.i64, CK.int IntKind.i64, CK.int IntKind.i64, CK.int IntKind.i64, CK.int IntKind.i64, CK.int IntKind.i64, CK.int IntKind.i64, CK.int IntKind.i64, CK.int IntKind.i64, CK.int IntKind.i64, CK.int IntKind.i64, CK.int IntKind.i64, CK.int IntKind.i64, CK.int IntKind.i64, CK.int IntKind.i64, CK.int IntKind.i64, CK.int IntKind.i64, CK.int IntKind.i64, CK.int IntKind.i64] x.scans.n fun i => QB.enc (x.scans.get i)), ((2 : Nat), Blk.frz [CK.int IntKind.i64, CK.int IntKind.i64, CK.int IntKind.i64, CK.int IntKind.i64] x.hang.n fun i => QB.enc (x.hang.get i)), ((41 : Nat), Blk.frz2 false (38 : Nat) [CK.int IntKind.i64, CK.int IntKind.i64] C.length (fun i => (QJ C i).length) fun i j => QB.enc ((QJ C i).getD j (QA.mk (0 : Int) (0 : Int))))]))))) (QC.need (decide ((0 : Int) ≤ (↑l.length : Int) ∧ (↑l.length : Int) < (↑C.length : Int)) && decide (C.length ≤ C.length)) (QC.need (decide (l.length < C.length)) (QC.fail ("a loop")))) := by kernel_rfl
noncomputable abbrev QC5:Nat×Blk:=
  (257,.lp LoopState.ready none tdT (Array.mk [12]) (QQ Try.f53 0).1 (QQ Try.f53 0).2)
noncomputable abbrev QEY (C:List (List QA)) (x:QE):Nat×Blk:=
  (40,.cellsR 0 125 [.int false .i64 x.d.play.length,.int false .i64 x.d.play.slack,.int false .i64 x.d.play.loose,.int false .i64 x.d.play.damp.lo,.int false .i64
  x.d.play.damp.hi,.int false .i64 x.d.wide,.int false .i64 x.d.high,.bool false x.d.turn,.slz 0 0 x.d.ps.n (Cap.of 0),.slz 1 0 x.scans.n (Cap.of 0),.slz 2 0 x.hang.n (Cap.of
  0),.int false .i64 x.lost,.int false .i64 x.foreign,.slz 41 0 C.length (Cap.of 0)])
noncomputable abbrev QKV:Nat×Blk:=
  (176,.cellsR 0 101 [.fn (Fn.func 62) [.ptr 120 0 0,.ptr 112 0 0,.ptr 104 0 0]])
noncomputable abbrev Hc:List CK:=
  [.int .i64,.int .i64,.int .i64,.int .i64,.int .i64,.int .i64,.int .i64,.int .i64,.int .i64,.int .i64,.int .i64,.int .i64,.int .i64,.int .i64,.int .i64,.int .i64,.int
  .i64,.int .i64,.int .i64,.int .i64,.int .i64,.int .i64,.int .i64,.int .i64,.int .i64,.int .i64,.int .i64,.int .i64]
noncomputable abbrev QJ7 (C:List (List QA)):Nat×Blk:=
  (41,.frz2 false 38 [.int .i64,.int .i64] C.length (fun i=>(QJ C i).length) fun i j=>QB.enc ((QJ C i).getD j (QA.mk (0:Int) (0:Int))))
theorem QQG (x:QE) (C:List (List QA)) (l:List QA) (has:Int→Bool) (many n:Int) (f:List QA) (moved turned:Int) :QO 360 [(.bool true true)] ([(296,.cells 0 38 [.slz 344 0 l.length (Cap.of 0)]),(272,.mpf IntKind.i64 (.int true .i64 (0:Int)) has fun i => .int false .i64 (QI l i)),QC5,
  (200,.cells 0 3 [.int false .i64 many]),(168,.cells 0 3 [.int false .i64 n]),(120,.cells 0 38 [.slz 352 0 f.length (Cap.of 0)]),(112,.cells 0 92 [.int false .i64 moved]),
  (104,.cells 0 92 [.int false .i64 turned]),(344,.rowz true 56 [.int .i64,.int .i64] l.length fun i=>QB.enc (l.getD i (QA.mk (0:Int) (0:Int)))),(QEY C x),QKV,(224,
  .cellsR 0 89 [.ptr 40 0 0]),(352,.rowz true 56 [.int .i64,.int .i64] f.length fun i=>QB.enc (f.getD i (QA.mk (0:Int) (0:Int)))),(0,.frz Hc x.d.ps.n fun i=>
  QB.enc (x.d.ps.get i)),(1,.frz Hc x.scans.n fun i=>QB.enc (x.scans.get i)),(2,.frz [.int .i64,.int .i64,.int .i64,.int .i64] x.hang.n fun i=>QB.enc (x.hang.get
  i)),(QJ7 C)]) (K2 (tdU x C (QQ Try.f53 0).1 (QQ Try.f53 0).2 l has many n f moved turned has many n f moved turned))=( some [true=true,0=0,l.length=l.length,
  Cap.of 0=Cap.of 0,l.length≤l.length,QD 2 l.length (fun i=>QB.enc (l.getD i (QA.mk (0:Int) (0:Int)))) fun i=>QB.enc (l.getD i (QA.mk (0:Int) (0:Int))),
  Kn (.int true .i64 (0:Int)) (.int true .i64 (0:Int)) has has (fun i => .int false .i64 (QI l i)) fun i => .int false .i64 (QI l i),LoopState.ready=LoopState.ready,
  (none:Option Code)=none,Array.mk [12]=Array.mk [(12:Tmp)],(QQ Try.f53 0).1=(QQ Try.f53 0).1,(QQ Try.f53 0).2=(QQ Try.f53 0).2,0=0,0=0,(0:Int)
  = (0:Int),Fn.func (62:FuncId)=Fn.func (62:FuncId),0=0,0=0,0=0,0=0,0=0,0=0,0=0,0=0,0=0,0=0,(0:Int)=(0:Int),false=false,0=0,0=0,
  0=0,0=0,Fn.func (76:FuncId)=Fn.func (76:FuncId),0=0,0=0,many=many,n=n,0=0,f.length=f.length,Cap.of 0=Cap.of 0,f.length≤f.length,QD 2
  f.length (fun i=>QB.enc (f.getD i (QA.mk (0:Int) (0:Int)))) fun i=>QB.enc (f.getD i (QA.mk (0:Int) (0:Int))),moved=moved,turned=turned]):=by kernel_rfl
theorem QPv (x:QE) (C:List (List QA)) (l:List QA) (has:Int→Bool) (many n:Int) (f:List QA) (moved turned:Int) (f2:List QA) (m2 t2:Int) (many' n':Int) (f':List QA) (moved' turned':Int) :QO 360 [(.bool true true)] ([(296,.cells 0 38 [.slz 344 0 l.length (Cap.of 0)]),(272,.mpf IntKind.i64 (.int true .i64 (0:Int)) has fun i => .int false .i64 (QI l i)),QC5,
  (200,.cells 0 3 [.int false .i64 (IntKind.i64.wrap (many + (1:Int)))]),(168,.cells 0 3 [.int false .i64 (IntKind.i64.wrap (n + (1:Int)))]),(120,.cells 0 38 [.slz 664 0
  f2.length (Cap.of 0)]),(112,.cells 0 92 [.int false .i64 m2]),(104,.cells 0 92 [.int false .i64 t2]),(344,.rowz true 56 [.int .i64,.int .i64] l.length fun i=>QB.enc
  (l.getD i (QA.mk (0:Int) (0:Int)))),(QEY C x),QKV,(224,.cellsR 0 89 [.ptr 40 0 0]),(664,.rowz true 56 [.int .i64,.int .i64] f2.length fun i=>QB.enc (f2.getD i
  (QA.mk (0:Int) (0:Int)))),(0,.frz Hc x.d.ps.n fun i=>QB.enc (x.d.ps.get i)),(1,.frz Hc x.scans.n fun i=>QB.enc (x.scans.get i)),(2,.frz [.int .i64,.int
  .i64,.int .i64,.int .i64] x.hang.n fun i=>QB.enc (x.hang.get i)),(QJ7 C)]) (K2 (tdU x C (QQ Try.f53 0).1 (QQ Try.f53 0).2 l has many n f moved turned has many' n'
  f' moved' turned'))=( some [true=true,0=0,l.length=l.length,Cap.of 0=Cap.of 0,l.length≤l.length,QD 2 l.length (fun i=>QB.enc (l.getD i (QA.mk (0:Int) (0
  : Int)))) fun i=>QB.enc (l.getD i (QA.mk (0:Int) (0:Int))),Kn (.int true .i64 (0:Int)) (.int true .i64 (0:Int)) has has (fun i => .int false .i64 (QI l i)) fun i
  => .int false .i64 (QI l i),LoopState.ready=LoopState.ready,(none:Option Code)=none,Array.mk [12]=Array.mk [(12:Tmp)],(QQ Try.f53 0).1=(QQ Try.f53 0).1,
  (QQ Try.f53 0).2=(QQ Try.f53 0).2,0=0,0=0,(0:Int)=(0:Int),Fn.func (62:FuncId)=Fn.func (62:FuncId),0=0,0=0,0=0,0=0,0=0,0=0,0=0,0 =
  0,0=0,0=0,(0:Int)=(0:Int),false=false,0=0,0=0,0=0,0=0,Fn.func (76:FuncId)=Fn.func (76:FuncId),0=0,0=0,IntKind.i64.wrap (many + (1:Int)) =
  many',IntKind.i64.wrap (n + (1:Int))=n',0=0,f2.length=f'.length,Cap.of 0=Cap.of 0,f'.length≤f2.length,QD 2 f'.length (fun i=>QB.enc (f2.getD i (QA.mk (0
  : Int) (0:Int)))) fun i=>QB.enc (f'.getD i (QA.mk (0:Int) (0:Int))),m2=moved',t2=turned']):=by kernel_rfl
theorem QSc (x:QE) (C:List (List QA)) (cs l:List QA) (has:Int→Bool) (many n:Int) (f:List QA) (moved turned:Int) (has':Int→Bool) (many' n':Int) (f':List QA) (moved' turned':Int):(Vr (mkE Try.prog Qu) (tdX Try.prog (tdJ x C (QQ Try.f53 0).1 (QQ Try.f53 0).2 cs l has many n f moved turned 0) [(True,.exit 0,tdE (QQ Try.f53 0).1 (QQ Try.f53 0).2 l has' many' n' f' moved' turned')]) Try.f77 QAz (zE x C (QQ Try.f53 0).1 (QQ Try.f53 0).2 l has many n f moved turned).hp 360 fun v h _=>qR qr v h) =
  QC.br ((↑l.length : Int) == (↑x.scans.n : Int)) (QC.need (isI IntKind.i64 (AV.int false IntKind.i64 (QI l (-2 : Int)))) (QC.br (decide (IntKind.i64.wrap ((↑x.d.ps.n : Int) - IntKind.i64.wrap ((↑l.length : Int) - toI (AV.int false IntKind.i64 (QI l (-2 : Int))))) > x.lost)) (QC.leaf (AV.bool true true) ([((296 : Nat), Blk.cells (0 : Nat) (38 : Nat) [AV.slz (344 : Nat) (0 : Nat) l.length (Cap.of (0 : Nat))]), ((272 : Nat), Blk.mpf IntKind.i64 (AV.int true IntKind.i64 (0 : Int)) has fun i => AV.int false IntKind.i64 (QI l i)), ((257 : Nat), Blk.lp LoopState.ready none tdT (Array.mk [(12 : Nat)]) (QQ Try.f53 0).1 (QQ Try.f53 0).2), ((200 : Nat), Blk.cells (0 : Nat) (3 : Nat) [AV.int false IntKind.i64 many]), ((168 : Nat), Blk.cells (0 : Nat) (3 : Nat) [AV.int false IntKind.i64 n]), ((120 : Nat), Blk.cells (0 : Nat) (38 : Nat) [AV.slz (352 : Nat) (0 : Nat) f.length (Cap.of (0 : Nat))]), ((112 : Nat), Blk.cells (0 : Nat) (92 : Nat) [AV.int false IntKind.i64 moved]), ((104 : Nat), Blk.cells (0 : Nat) (92 : Nat) [AV.int false IntKind.i64 turned]), ((344 : Nat), Blk.rowz true (56 : Nat) [CK.int IntKind.i64, CK.int IntKind.i64] l.length fun i => QB.enc (l.getD i (QA.mk (0 : Int) (0 : Int)))), ((40 : Nat), Blk.cellsR (0 : Nat) (125 : Nat) [AV.int false IntKind.i64 x.d.play.length, AV.int false IntKind.i64 x.d.play.slack, AV.int false IntKind.i64 x.d.play.loose, AV.int false IntKind.i64 x.d.play.damp.lo, AV.int false IntKind.i64 x.d.play.damp.hi, AV.int false IntKind.i64 x.d.wide, AV.int false IntKind.i64 x.d.high, AV.bool false x.d.turn, AV.slz (0 : Nat) (0 : Nat) x.d.ps.n (Cap.of (0 : Nat)), AV.slz (1 : Nat) (0 : Nat) x.scans.n (Cap.of (0 : Nat)), AV.slz (2 : Nat) (0 : Nat) x.hang.n (Cap.of (0 : Nat)), AV.int false IntKind.i64 x.lost, AV.int false IntKind.i64 x.foreign, AV.slz (41 : Nat) (0 : Nat) C.length (Cap.of (0 : Nat))]), ((176 : Nat), Blk.cellsR (0 : Nat) (101 : Nat) [AV.fn (Fn.func (62 : Nat)) [AV.ptr (120 : Nat) (0 : Nat) (0 : Nat), AV.ptr (112 : Nat) (0 : Nat) (0 : Nat), AV.ptr (104 : Nat) (0 : Nat) (0 : Nat)]]), ((224 : Nat), Blk.cellsR (0 : Nat) (89 : Nat) [AV.ptr (40 : Nat) (0 : Nat) (0 : Nat)]), ((352 : Nat), Blk.rowz true (56 : Nat) [CK.int IntKind.i64, CK.int IntKind.i64] f.length fun i => QB.enc (f.getD i (QA.mk (0 : Int) (0 : Int)))), ((0 : Nat), Blk.frz [CK.int IntKind.i64, CK.int IntKind.i64, CK.int IntKind.i64, CK.int IntKind.i64, CK.int IntKind.i64, CK.int IntKind.i64, CK.int IntKind.i64, CK.int IntKind.i64, CK.int IntKind.i64, CK.int IntKind.i64, CK.int IntKind.i64, CK.int IntKind.i64, CK.int IntKind.i64, CK.int IntKind.i64, CK.int IntKind.i64, CK.int IntKind.i64, CK.int IntKind.i64, CK.int IntKind.i64, CK.int IntKind.i64, CK.int IntKind.i64, CK.int IntKind.i64, CK.int IntKind.i64, CK.int IntKind.i64, CK.int IntKind.i64, CK.int IntKind.i64, CK.int IntKind.i64, CK.int IntKind.i64, CK.int IntKind.i64] x.d.ps.n fun i => QB.enc (x.d.ps.get i)), ((1 : Nat), Blk.frz [CK.int IntKind.i64, CK.int IntKind.i64, CK.int IntKind.i64, CK.int IntKind.i64, CK.int IntKind.i64, CK.int IntKind.i64, CK.int IntKind.i64, CK.int IntKind.i64, CK.int IntKind.i64, CK.int IntKind.i64, CK.int IntKind.i64, CK.int IntKind.i64, CK.int IntKind.i64, CK.int IntKind.i64, CK.int IntKind.i64, CK.int IntKind.i64, CK.int IntKind.i64, CK.int IntKind.i64, CK.int IntKind.i64, CK.int IntKind.i64, CK.int IntKind.i64, CK.int IntKind.i64, CK.int IntKind.i64, CK.int IntKind.i64, CK.int IntKind.i64, CK.int IntKind.i64, CK.int IntKind.i64, CK.int IntKind.i64] x.scans.n fun i => QB.enc (x.scans.get i)), ((2 : Nat), Blk.frz [CK.int IntKind.i64, CK.int IntKind.i64, CK.int IntKind.i64, CK.int IntKind.i64] x.hang.n fun i => QB.enc (x.hang.get i)), ((41 : Nat), Blk.frz2 false (38 : Nat) [CK.int IntKind.i64, CK.int IntKind.i64] C.length (fun i => (QJ C i).length) fun i j => QB.enc ((QJ C i).getD j (QA.mk (0 : Int) (0 : Int))))])) (QC.br (n == (0 : Int)) (QC.fail ("a call without a contract")) (QC.fail ("a loop"))))) (QC.need (decide ((0 : Int) ≤ (↑l.length : Int) ∧ (↑l.length : Int) < (↑C.length : Int)) && decide (C.length ≤ C.length)) (QC.need (decide (l.length < C.length)) (QC.ask ((0 : Nat) = (0 : Nat)) (QC.ask ((0 : Nat) = (0 : Nat)) (QC.ask ((0 : Nat) = (0 : Nat)) (QC.ask ((0 : Nat) = (0 : Nat)) (QC.ask ((0 : Nat) = (0 : Nat)) (QC.ask ((0 : Nat) = (0 : Nat)) (QC.ask ((0 : Nat) = (0 : Nat)) (QC.ask ((0 : Nat) = (0 : Nat)) (QC.ask ((0 : Nat) = (0 : Nat)) (QC.ask ((0 : Nat) = (0 : Nat)) (QC.ask ((0 : Nat) = (0 : Nat)) (QC.ask ((QJ C l.length).length = cs.length) (QC.ask (Cap.of (0 : Nat) = Cap.of (0 : Nat)) (QC.ask ((↑(QJ C l.length).length : Int) = (↑cs.length : Int)) (QC.ask ((0 : Int) = (0 : Int)) (QC.ask (cs.length ≤ (QJ C l.length).length) (QC.ask (QD (2 : Nat) cs.length (fun j => QB.enc ((QJ C l.length).getD j (QA.mk (0 : Int) (0 : Int)))) fun i => QB.enc (cs.getD i (QA.mk (0 : Int) (0 : Int)))) (QC.ask ((0 : Nat) = (0 : Nat)) (QC.ask (l.length = l.length) (QC.ask (Cap.of (0 : Nat) = Cap.of (0 : Nat)) (QC.ask (l.length ≤ l.length) (QC.ask (QD (2 : Nat) l.length (fun i => QB.enc (l.getD i (QA.mk (0 : Int) (0 : Int)))) fun i => QB.enc (l.getD i (QA.mk (0 : Int) (0 : Int)))) (QC.ask (Kn (AV.int true IntKind.i64 (0 : Int)) (AV.int true IntKind.i64 (0 : Int)) has has (fun i => AV.int false IntKind.i64 (QI l i)) fun i => AV.int false IntKind.i64 (QI l i)) (QC.ask (LoopState.ready = LoopState.ready) (QC.ask ((none : Option Code) = none) (QC.ask (Array.mk [(12 : Tmp)] = Array.mk [(12 : Tmp)]) (QC.ask ((QQ Try.f53 0).1 = (QQ Try.f53 0).1) (QC.ask ((QQ Try.f53 0).2 = (QQ Try.f53 0).2) (QC.ask ((0 : Nat) = (0 : Nat)) (QC.ask ((0 : Nat) = (0 : Nat)) (QC.ask ((0 : Int) = (0 : Int)) (QC.ask (Fn.func (62 : FuncId) = Fn.func (62 : FuncId)) (QC.ask ((0 : Nat) = (0 : Nat)) (QC.ask ((0 : Nat) = (0 : Nat)) (QC.ask ((0 : Nat) = (0 : Nat)) (QC.ask ((0 : Nat) = (0 : Nat)) (QC.ask ((0 : Nat) = (0 : Nat)) (QC.ask ((0 : Nat) = (0 : Nat)) (QC.ask ((0 : Nat) = (0 : Nat)) (QC.ask ((0 : Nat) = (0 : Nat)) (QC.ask ((0 : Nat) = (0 : Nat)) (QC.ask ((0 : Nat) = (0 : Nat)) (QC.ask ((0 : Int) = (0 : Int)) (QC.ask (false = false) (QC.ask ((0 : Nat) = (0 : Nat)) (QC.ask ((0 : Nat) = (0 : Nat)) (QC.ask ((0 : Nat) = (0 : Nat)) (QC.ask ((0 : Nat) = (0 : Nat)) (QC.ask (Fn.func (76 : FuncId) = Fn.func (76 : FuncId)) (QC.ask ((0 : Nat) = (0 : Nat)) (QC.ask ((0 : Nat) = (0 : Nat)) (QC.ask (many = many) (QC.ask (n = n) (QC.ask ((0 : Nat) = (0 : Nat)) (QC.ask (f.length = f.length) (QC.ask (Cap.of (0 : Nat) = Cap.of (0 : Nat)) (QC.ask (f.length ≤ f.length) (QC.ask (QD (2 : Nat) f.length (fun i => QB.enc (f.getD i (QA.mk (0 : Int) (0 : Int)))) fun i => QB.enc (f.getD i (QA.mk (0 : Int) (0 : Int)))) (QC.ask (moved = moved) (QC.ask (turned = turned) (QC.ask (Fn.func (77 : FuncId) = Fn.func (77 : FuncId)) (QC.ask ((0 : Nat) = (0 : Nat)) (QC.ask ((0 : Nat) = (0 : Nat)) (QC.ask ((0 : Nat) = (0 : Nat)) (QC.ask ((0 : Nat) = (0 : Nat)) (QC.ask ((0 : Nat) = (0 : Nat)) (QC.ask ((0 : Nat) = (0 : Nat)) (QC.ask ((0 : Nat) = (0 : Nat)) (QC.ask ((0 : Nat) = (0 : Nat)) (QC.ask ((0 : Nat) = (0 : Nat)) (QC.ask ((0 : Nat) = (0 : Nat)) (QC.ask ((0 : Nat) = (0 : Nat)) (QC.ask ((0 : Nat) = (0 : Nat)) (QC.ask (Fn.func (62 : FuncId) = Fn.func (62 : FuncId)) (QC.ask ((0 : Nat) = (0 : Nat)) (QC.ask ((0 : Nat) = (0 : Nat)) (QC.ask ((0 : Nat) = (0 : Nat)) (QC.ask ((0 : Nat) = (0 : Nat)) (QC.ask ((0 : Nat) = (0 : Nat)) (QC.ask ((0 : Nat) = (0 : Nat)) (QC.ask (x.d.play.length = x.d.play.length) (QC.ask (x.d.play.slack = x.d.play.slack) (QC.ask (x.d.play.loose = x.d.play.loose) (QC.ask (x.d.play.damp.lo = x.d.play.damp.lo) (QC.ask (x.d.play.damp.hi = x.d.play.damp.hi) (QC.ask (x.d.wide = x.d.wide) (QC.ask (x.d.high = x.d.high) (QC.ask (x.d.turn = x.d.turn) (QC.ask ((0 : Nat) = (0 : Nat)) (QC.ask (x.d.ps.n = x.d.ps.n) (QC.ask (Cap.of (0 : Nat) = Cap.of (0 : Nat)) (QC.ask ((0 : Nat) = (0 : Nat)) (QC.ask (x.scans.n = x.scans.n) (QC.ask (Cap.of (0 : Nat) = Cap.of (0 : Nat)) (QC.ask ((0 : Nat) = (0 : Nat)) (QC.ask (x.hang.n = x.hang.n) (QC.ask (Cap.of (0 : Nat) = Cap.of (0 : Nat)) (QC.ask (x.lost = x.lost) (QC.ask (x.foreign = x.foreign) (QC.ask ((0 : Nat) = (0 : Nat)) (QC.ask (C.length = C.length) (QC.ask (Cap.of (0 : Nat) = Cap.of (0 : Nat)) (QC.ask (C.length = C.length) (QC.ask (Kd (2 : Nat) C.length (fun i => (QJ C i).length) (fun i => (QJ C i).length) (fun i j => QB.enc ((QJ C i).getD j (QA.mk (0 : Int) (0 : Int)))) fun i j => QB.enc ((QJ C i).getD j (QA.mk (0 : Int) (0 : Int)))) (QC.ask (x.d.ps.n ≤ x.d.ps.n) (QC.ask (QD (28 : Nat) x.d.ps.n (fun i => QB.enc (x.d.ps.get i)) fun i => QB.enc (x.d.ps.get i)) (QC.ask (x.scans.n ≤ x.scans.n) (QC.ask (QD (28 : Nat) x.scans.n (fun i => QB.enc (x.scans.get i)) fun i => QB.enc (x.scans.get i)) (QC.ask (x.hang.n ≤ x.hang.n) (QC.ask (QD (4 : Nat) x.hang.n (fun i => QB.enc (x.hang.get i)) fun i => QB.enc (x.hang.get i)) (QC.asm (True) (QC.all (fun (g0 : Nat → Value) => QC.leaf (AV.bool true true) ([((296 : Nat), Blk.cells (0 : Nat) (38 : Nat) [AV.slz (368 : Nat) (0 : Nat) l.length (Cap.of (0 : Nat))]), ((272 : Nat), Blk.mpf IntKind.i64 (AV.int true IntKind.i64 (0 : Int)) has' fun i => AV.int false IntKind.i64 (QI l i)), ((257 : Nat), Blk.lp LoopState.ready none tdT (Array.mk [(12 : Nat)]) (QQ Try.f53 0).1 (QQ Try.f53 0).2), ((200 : Nat), Blk.cells (0 : Nat) (3 : Nat) [AV.int false IntKind.i64 many']), ((168 : Nat), Blk.cells (0 : Nat) (3 : Nat) [AV.int false IntKind.i64 n']), ((120 : Nat), Blk.cells (0 : Nat) (38 : Nat) [AV.slz (376 : Nat) (0 : Nat) f'.length (Cap.of (0 : Nat))]), ((112 : Nat), Blk.cells (0 : Nat) (92 : Nat) [AV.int false IntKind.i64 moved']), ((104 : Nat), Blk.cells (0 : Nat) (92 : Nat) [AV.int false IntKind.i64 turned']), ((368 : Nat), Blk.rowz true (56 : Nat) [CK.int IntKind.i64, CK.int IntKind.i64] l.length fun i => QB.enc (l.getD i (QA.mk (0 : Int) (0 : Int)))), ((376 : Nat), Blk.rowz true (56 : Nat) [CK.int IntKind.i64, CK.int IntKind.i64] f'.length fun i => QB.enc (f'.getD i (QA.mk (0 : Int) (0 : Int))))])))))))))))))))))))))))))))))))))))))))))))))))))))))))))))))))))))))))))))))))))))))))))))))))))))))))))))))))))))) := by kernel_rfl
theorem QQT (x:QE) (C:List (List QA)) (l:List QA) (has:Int→Bool) (many n:Int) (f:List QA) (moved turned:Int) (has':Int→Bool) (many' n':Int) (f':List QA) (moved' turned':Int) :QO 360 [(.bool true true)] ([(296,.cells 0 38 [.slz 368 0 l.length (Cap.of 0)]),(272,.mpf IntKind.i64 (.int true .i64 (0:Int)) has' fun i => .int false .i64 (QI l i)),
  QC5,(200,.cells 0 3 [.int false .i64 many']),(168,.cells 0 3 [.int false .i64 n']),(120,.cells 0 38 [.slz 376 0 f'.length (Cap.of 0)]),(112,.cells 0 92 [.int false .i64
  moved']),(104,.cells 0 92 [.int false .i64 turned']),(368,.rowz true 56 [.int .i64,.int .i64] l.length fun i=>QB.enc (l.getD i (QA.mk (0:Int) (0:Int)))),(376,.rowz
  true 56 [.int .i64,.int .i64] f'.length fun i=>QB.enc (f'.getD i (QA.mk (0:Int) (0:Int))))]) (K2 (tdU x C (QQ Try.f53 0).1 (QQ Try.f53 0).2 l has many n f moved
  turned has' many' n' f' moved' turned'))=( some [true=true,0=0,l.length=l.length,Cap.of 0=Cap.of 0,l.length≤l.length,QD 2 l.length (fun i=>QB.enc (l.getD i
  (QA.mk (0:Int) (0:Int)))) fun i=>QB.enc (l.getD i (QA.mk (0:Int) (0:Int))),Kn (.int true .i64 (0:Int)) (.int true .i64 (0:Int)) has' has' (fun i => .int
  false .i64 (QI l i)) fun i => .int false .i64 (QI l i),LoopState.ready=LoopState.ready,(none:Option Code)=none,Array.mk [12]=Array.mk [(12:Tmp)],(QQ Try.f53
  0).1=(QQ Try.f53 0).1,(QQ Try.f53 0).2=(QQ Try.f53 0).2,0=0,0=0,(0:Int)=(0:Int),Fn.func (62:FuncId)=Fn.func (62:FuncId),0=0,0=0,0=0,0
  = 0,0=0,0=0,0=0,0=0,0=0,0=0,(0:Int)=(0:Int),false=false,0=0,0=0,0=0,0=0,Fn.func (76:FuncId)=Fn.func (76:FuncId),0=0,0=0,many' =
  many',n'=n',0=0,f'.length=f'.length,Cap.of 0=Cap.of 0,f'.length≤f'.length,QD 2 f'.length (fun i=>QB.enc (f'.getD i (QA.mk (0:Int) (0:Int)))) fun i=>
  QB.enc (f'.getD i (QA.mk (0:Int) (0:Int))),moved'=moved',turned'=turned']):=by kernel_rfl
end Go.Proofs.Ytbpffdkemeoajaa
namespace Go.Proofs.Ytbpffdkemeoajaa
open Go.SX
noncomputable abbrev XC:Code:=(QQ Try.f53 0).1
noncomputable abbrev XD:Code:=(QQ Try.f53 0).2
theorem QHx (x:QE) (C:List (List QA)) (ac body:Code) (l:List QA) (has:Int→Bool) (many n:Int) (f:List QA) (moved turned:Int) (has':Int→Bool) (many' n':Int) (f':List QA) (moved' turned':Int):(tdU x C ac body l has many n f moved turned has' many' n' f' moved' turned').Ok:=by
 refine ⟨(by decide:336≤360),rfl,rfl,?_,rfl,fun _ _=>rfl,fun nid h => ?_⟩
 ·intro q hq
  simp only [UC.po,tdU,tdW,rwL,List.mem_cons,List.not_mem_nil,or_false] at hq
  rcases hq with rfl|rfl|rfl|rfl|rfl|rfl|rfl|rfl|rfl|rfl<;>refine ⟨rfl,rfl,rfl,?_⟩<;>first|exact fun _=>rfl|exact fun h=>absurd (show 360 < 336 from h) (by decide)|exact fun h=>absurd (show 361 < 336 from h) (by decide)
 ·have e0:=qT 336 360 0 nid (by decide)
  have e1:=qT 336 360 1 nid (by decide)
  simp only [UC.po,tdU,tdW,rwL,zE,tdT,List.map_cons,List.map_nil,Blk.mapId,AV.mapId,AV.mapIdL,Nat.add_zero] at e0 e1 ⊢
  rw [e0,e1]
  rfl
theorem QRG {x:QE} (hx:JI x) (C:List (List QA)) (hpos:0 < x.scans.n) {l:List QA} (hn:l.length=x.scans.n) (hl:∀ c∈l,JF c) (s:TdS) (h:Int→Bool) (hgd:J2 x s):QM Try.prog 77 (uFC (Xk x C XC XD l h s (V9 x tdY l s h))):=by
 obtain ⟨many,n,f,moved,turned⟩:=s
 have hs:=hx.s
 have hd:=hx.d.n9
 have hgd:J2 x (many,n,f,moved,turned):=hgd
 have hT:QU (Wd Qo (tmU l f n moved turned (Qz n l f) (mvL l (Qz n l f) moved l.length) (tuL l (Qz n l f) turned l.length))):=KD.add (QLd l f n moved turned (by omega) (by omega) (fun q=>(hgd q).trans hn.symm))
 have fin:∀ (s':TdS),Xe (zd (tdU x C XC XD l h many n f moved turned h s'.1 s'.2.1 s'.2.2.1 s'.2.2.2.1 s'.2.2.2.2)) (VG (mkE Try.prog (Wd Qo (tmU l f n moved turned (Qz n l f) (mvL l (Qz n l f) moved l.length) (tuL l (Qz n l f) turned l.length)))) (msN Try.prog (Wd Qo (tmU l f n moved turned (Qz n l f) (mvL l (Qz n l f) moved l.length) (tuL l (Qz n l f) turned l.length)))) Try.f77 (tdU x C XC XD l h many n f moved turned h s'.1 s'.2.1 s'.2.2.1 s'.2.2.2.1 s'.2.2.2.2))→QM Try.prog 77 (uFC (tdU x C XC XD l h many n f moved turned h s'.1 s'.2.1 s'.2.2.1 s'.2.2.2.1 s'.2.2.2.2)):=fun s' hd=>
  Jz (E:=mkE Try.prog (Wd Qo (tmU l f n moved turned (Qz n l f) (mvL l (Qz n l f) moved l.length) (tuL l (Qz n l f) turned l.length)))) (QN hT) Try.func77 (by kernel_rfl) (by kernel_rfl) (QHx ..) (fun G h1 _=>QH4 _ hT G h1) ⟨hd⟩
 have he:=QKM (x:=x) (l:=l) (by omega) (by omega)
 cases hb:X4 x l with
 | true=>
  rw [hb] at he
  simp only [V9,hb,Xk]
  refine fin (many,n,f,moved,turned) (KF (QFq Qo x C l h many n f moved turned (Qz n l f) (mvL l (Qz n l f) moved l.length) (tuL l (Qz n l f) turned l.length)) ?_)
  refine QL (fun _=>QF rfl (QL (fun _ => ?_) (fun q=>Bool.noConfusion (show true=false from he.symm.trans q)))) (fun q=>by rw [hn] at q;simp at q)
  refine ⟨rfl,rfl,_,QQG x C l h many n f moved turned,?_⟩
  repeat' first|exact trivial|with_reducible rfl|exact Nat.le_refl _|exact QD.refl _ _ _|exact Qp _ _ _ _|exact VN _ _ _|refine And.intro ?_ ?_
 | false=>
  rw [hb] at he
  simp only [V9,hb,tdY,Xk]
  refine fin (tdY (many,n,f,moved,turned) l).1 (KF (QFq Qo x C l h many n f moved turned (Qz n l f) (mvL l (Qz n l f) moved l.length) (tuL l (Qz n l f) turned l.length)) ?_)
  refine QL (fun _=>QF rfl (QL (fun q=>Bool.noConfusion (show true=false from q.symm.trans he)) (fun _=>QF (Kr.2 ?_) ?_))) (fun q=>by rw [hn] at q;simp at q)
  ·repeat' first|exact trivial|with_reducible rfl|exact Nat.le_refl _|exact QD.refl _ _ _|exact Qp _ _ _ _|refine And.intro ?_ ?_
  refine ⟨rfl,rfl,_,QPv x C l h many n f moved turned (Qz n l f) (mvL l (Qz n l f) moved l.length) (tuL l (Qz n l f) turned l.length) _ _ _ _ _,?_⟩
  repeat' first|exact trivial|with_reducible rfl|exact Nat.le_refl _|exact QD.refl _ _ _|exact Qp _ _ _ _|exact VN _ _ _|exact rfl|refine And.intro ?_ ?_
theorem QSo {x:QE} (hx:JI x) {C:List (List QA)} {ac body:Code} {d:Nat} {cs l:List QA} (hl:l.length < 1000) (hls:∀ c∈l,JF c) (hcs:∀ c∈cs,JF c) (IH:∀ c∈cs,∀ s h,J2 x s→QM Try.prog 77 (uFC (Xk x C ac body (l++[c]) h s (V3 x C d l s h c)))) (t:TdK):(Zs Try.prog x C ac body d cs l t).Sound:=by
 unfold Zs ZE
 split
 ·rename_i hk
  have hm:=zk (z:=(⟨0,0⟩:QA)) hk.1
  refine QN ((KD.add (QKY x C _ hx (QHW (by simp) (by simp;omega) ?_))).add (IH _ hm _ _ hk.2))
  intro c hc
  rcases List.mem_append.1 hc with h|h
  ·exact hls c h
  ·rw [List.mem_singleton.1 h];exact hcs _ hm
 ·exact QN ((KD.add (qq (by kernel_rfl) _)).add (qq (by kernel_rfl) _))
theorem QTA {x:QE} (hx:JI x) {C:List (List QA)} (hC:ZO x C) {ac body:Code} {d:Nat} {l:List QA} (hl:l.length + (d + 1)=x.scans.n) (hls:∀ c∈l,JF c) (IH:∀ c∈QJ C l.length,∀ s h,J2 x s→QM Try.prog 77 (uFC (Xk x C ac body (l++[c]) h s (V3 x C d l s h c))))
  (s:TdS) (h:Int→Bool) (hgd:J2 x s) {X:List (Prop×Ex×JSt)} (hX:∀ e J,ZC x C ac body d (QJ C l.length) l (0,s,h) e J→∃ y∈X,y.1∧y.2.1=e∧y.2.2=J) (G:Ctx) (hrd:G.rd=none) (hG:G.n=360) :
  Q4 (mkE Try.prog Qu) G (tdX Try.prog (tdJ x C ac body (QJ C l.length) l h s.1 s.2.1 s.2.2.1 s.2.2.2.1 s.2.2.2.2 0) X) (Qm Try.f77):=by
 have hs:=hx.s
 refine JR (body:=Qf Try.f77 0) (QN KD) hrd (by kernel_rfl) ?_
 have hE:=fun t=>QSo hx (C:=C) (ac:=ac) (body:=body) (d:=d) (cs:=QJ C l.length) (l:=l) (by omega) hls (hC.s _) IH t
 refine QCI (E0:=mkE Try.prog Qu) (E:=Zs Try.prog x C ac body d (QJ C l.length) l) (H:=fun t=>hnd (Zs Try.prog x C ac body d (QJ C l.length) l t) 0) (n0:=360) (s0:=(0,s,h)) (fun _=>rfl) hE (by omega) (fun t _=>Qt (hE t) 0 G _ hrd) (fun t _=>(by decide:360≤400)) ?_ (QNS x C ac body d (QJ C l.length) l (hC.le _) (by omega) (by omega)) ⟨Nat.zero_le _,hgd⟩ hX
 intro t e J hr
 unfold ZC at hr
 split at hr
 ·rw [hr.2];exact (by decide:360≤400)
 ·exact hr.elim
theorem QKu {x:QE} (hx:JI x) {C:List (List QA)} (hC:ZO x C) {d:Nat} {l:List QA} (hl:l.length + (d + 1)=x.scans.n) (hls:∀ c∈l,JF c) (IH:∀ c∈QJ C l.length,∀ s h,J2 x s→QM Try.prog 77 (uFC (Xk x C XC XD (l++[c]) h s (V3 x C d l s h c))))
  (s:TdS) (h:Int→Bool) (hgd:J2 x s):QM Try.prog 77 (uFC (Xk x C XC XD l h s (onT x C tdY (d + 1) l s h))):=by
 obtain ⟨s',h',he⟩:=Za (C:=C) (x:=x) (Y:=tdY) (fun _ _=>rfl) (d + 1) l s h
 rw [he]
 have hc:Jd (JN x l (V3 x C d l)) (QJ C l.length) s h = .go s' h':=he
 have hCn:=hC.n
 refine Jz (E:=mkE Try.prog Qu) (QN KD) Try.func77 (by kernel_rfl) (by kernel_rfl) (QHx ..) (QTA hx hC hl hls IH s h hgd (X:=[(True,.exit 0,tdE XC XD l h' s'.1 s'.2.1 s'.2.2.1 s'.2.2.2.1 s'.2.2.2.2)]) ?_) ⟨?_⟩
 ·intro e J hr
  unfold ZC at hr
  simp only [List.drop_zero,hc] at hr
  exact ⟨_,List.mem_cons_self,trivial,hr.1.symm,hr.2.symm⟩
 ·refine KF (QSc x C (QJ C l.length) l h s.1 s.2.1 s.2.2.1 s.2.2.2.1 s.2.2.2.2 h' s'.1 s'.2.1 s'.2.2.1 s'.2.2.2.1 s'.2.2.2.2) ?_
  refine QL (fun q=>by simp at q;omega) (fun _=>QF (by simp;omega) (QF (by simp;omega) ?_))
  repeat' first|refine Qc (p:=_=_) rfl ?_|refine Qc (p:=_≤_) (Nat.le_refl _) ?_|refine Qc (p:=QD _ _ _ _) (QD.refl _ _ _) ?_|refine Qc (p:=Kd _ _ _ _ _ _) (Qp _ _ _ _) ?_|refine Qc (p:=Kn _ _ _ _ _ _) (VN _ _ _) ?_
  refine KQ fun _=>KX fun g=>⟨rfl,rfl,_,QQT x C l h s.1 s.2.1 s.2.2.1 s.2.2.2.1 s.2.2.2.2 h' s'.1 s'.2.1 s'.2.2.1 s'.2.2.2.1 s'.2.2.2.2,?_⟩
  repeat' first|exact trivial|with_reducible rfl|exact Nat.le_refl _|exact QD.refl _ _ _|exact Qp _ _ _ _|exact VN _ _ _|refine And.intro ?_ ?_
theorem QDx {x:QE} (hx:JI x) {C:List (List QA)} (hC:ZO x C) (hpos:0 < x.scans.n):∀ (d:Nat) (l:List QA) (s:TdS) (h:Int→Bool),l.length + d=x.scans.n→(∀ c∈l,JF c)→J2 x s→QM Try.prog 77 (uFC (Xk x C XC XD l h s (onT x C tdY d l s h)))
 | 0,l,s,h,hn,hl,hgd=>QRG hx C hpos (by omega) hl s h hgd
 | d + 1,l,s,h,hn,hl,hgd=>QKu hx hC (by omega) hl (fun c hc s h hgd=>QDx hx hC hpos d (l++[c]) s h (by simp;omega) (fun y hy=>by
   rcases List.mem_append.1 hy with q|q
   ·exact hl y q
   ·rw [List.mem_singleton.1 q];exact hC.s _ c hc) hgd) s h hgd
end Go.Proofs.Ytbpffdkemeoajaa
namespace Go.Proofs.Ytbpffdkemeoajaa
open Go.SX
end Go.Proofs.Ytbpffdkemeoajaa
namespace Go.Proofs.Ytbpffdkemeoajaa
open Go.SX
end Go.Proofs.Ytbpffdkemeoajaa
namespace Go.Proofs.Ytbpffdkemeoajaa
open Go.SX
end Go.Proofs.Ytbpffdkemeoajaa
namespace Go.Proofs.Ytbpffdkemeoajaa
open Go.SX
end Go.Proofs.Ytbpffdkemeoajaa
namespace Go.Proofs.Ytbpffdkemeoajaa
open Go.SX
end Go.Proofs.Ytbpffdkemeoajaa
namespace Go.Proofs.Ytbpffdkemeoajaa
open Go.SX
end Go.Proofs.Ytbpffdkemeoajaa
namespace Go.Proofs.Ytbpffdkemeoajaa
open Go.SX
end Go.Proofs.Ytbpffdkemeoajaa
namespace Go.Proofs.Ytbpffdkemeoajaa
open Go.SX
end Go.Proofs.Ytbpffdkemeoajaa
namespace Go.Proofs.Ytbpffdkemeoajaa
open Go.SX
end Go.Proofs.Ytbpffdkemeoajaa
