/- Told's fold: what it does with a truth (layer 7). -/
import Derived.Test.YtbpffdkemeoajaaMmzb
set_option maxRecDepth 100000
namespace Go.Proofs.Ytbpffdkemeoajaa
open Go.SX
def tmS (b:Nat) (f:List QA) (moved turned:Int):List (Nat×Blk):=[(120,.cells 0 38 [.slz b 0 f.length (.of 0)]),rwL b f,(112,.cells 0 92 [.int false .i64 moved]),(104,.cells 0 92 [.int false .i64 turned])]
def tmB (b:Nat) (l f:List QA) (moved turned:Int):List (Nat×Blk):=(200,.frz [.int .i64,.int .i64] l.length fun i=>QB.enc (l.getD i ⟨0,0⟩))::tmS b f moved turned
def tmJ (l f:List QA) (n moved turned:Int) (k:Nat):JSt:=⟨44,[(0,.int false .i64 n),(2,.ptr 120 0 0),(3,.ptr 112 0 0),(4,.ptr 104 0 0),(14,.slz 200 0 l.length (.of 0)),(15,.int false .i64 l.length),(16,.int false .i64 k)],tmB 232 l f moved turned,288⟩
def tmE (f:List QA) (n moved turned:Int):JSt:=⟨44,[(0,.int false .i64 n)],tmS 232 f moved turned,288⟩
def QDO:Ex→List Nat
 | .normal=>[0,2,3,4,14,15,16]
 | .exit _=>[0]
 | .ret=>[]
def QCj:List Nat:=[120,112,104]
noncomputable abbrev Hf (k:Nat) (l:List QA) (n:Int):List AV:=
  [.nilp,.ptr 44 0 0,.int false .i64 n,.ptr 120 0 0,.ptr 112 0 0,.ptr 104 0 0,.slz 200 0 l.length (Cap.of 0),.int false .i64 (↑l.length:Int),.int false .i64
  (IntKind.i64.wrap ((↑k:Int) + (1:Int)))]
noncomputable abbrev Xt (f:List QA):Nat×Blk:=
  (120,.cells 0 38 [.slz 232 0 f.length (Cap.of 0)])
noncomputable abbrev G1 (k:Nat) (moved:Int):Nat×Blk:=
  (112,.cells 0 92 [.int false .i64 (IntKind.i64.wrap (↑(BitVec.ofInt 64 moved ||| BitVec.ofInt 64 (IntKind.i64.wrap ((1:Int) * (2:Int) ^ min k 64))).toNat:Int))])
noncomputable abbrev G9 (k:Nat) (turned:Int):Nat×Blk:=
  (104,.cells 0 92 [.int false .i64 (IntKind.i64.wrap (↑(BitVec.ofInt 64 turned ||| BitVec.ofInt 64 (IntKind.i64.wrap ((1:Int) * (2:Int) ^ min k 64))).toNat:Int))])
noncomputable abbrev Yo (l:List QA):Nat×Blk:=
  (200,.frz [.int .i64,.int .i64] l.length fun i=>QB.enc (l.getD i (QA.mk (0:Int) (0:Int))))
noncomputable abbrev Xu (f:List QA):Nat×Blk:=
  (232,.rowz true 56 [.int .i64,.int .i64] f.length fun i=>QB.enc (f.getD i (QA.mk (0:Int) (0:Int))))
noncomputable abbrev jZ (turned:Int):Nat×Blk:=
  (104,.cells 0 92 [.int false .i64 turned])
noncomputable abbrev qx (moved:Int):Nat×Blk:=
  (112,.cells 0 92 [.int false .i64 moved])
theorem QN8 (l f:List QA) (n moved turned:Int) (k:Nat) (g:Nat→Value) :exec (mkE Try.prog Qu) (hnd (mkE Try.prog Qu) 3) (Qf Try.f62 0) (JSt.inst (tmJ l f n moved turned k) g) (KT QCj QDO) = .br (decide ((↑k:Int) < (↑l.length :
  Int))) (.need (decide ((0:Int)≤(↑k:Int)∧(↑k:Int) < (↑l.length:Int))&&decide (l.length≤l.length)) (.need (decide (k < l.length)) (.need (decide ((0:Int)≤(↑k :
  Int)∧(↑k:Int) < (↑f.length:Int))&&decide (f.length≤f.length)) (.need (decide (k < f.length)) (.br ((l.getD k (QA.mk (0:Int) (0:Int))).cell != (f.getD k (QA.mk (0 :
  Int) (0:Int))).cell) (.need (decide ((0:Int)≤(↑k:Int))) (.need (decide ((0:Int)≤(↑k:Int)∧(↑k:Int) < (↑f.length:Int))&&decide (f.length≤f.length)) (.need
  (decide (k < f.length)) (.br (!((l.getD k (QA.mk (0:Int) (0:Int))).cell == (f.getD k (QA.mk (0:Int) (0:Int))).cell&&((l.getD k (QA.mk (0:Int) (0:Int))).turn ==
  (f.getD k (QA.mk (0:Int) (0:Int))).turn&&true))) (.need (decide ((0:Int)≤(↑k:Int))) (.leaf (.tup (Hf k l n)) ([(Xt f),(G1 k moved),(G9 k turned),(Yo l),
  (Xu f)]))) (.leaf (.tup (Hf k l n)) ([(Xt f),(G1 k moved),(jZ turned),(Yo l),(Xu f)])))))) (.need (decide ((0:Int)≤(↑k:Int)∧(↑k:Int) < (↑f.length:Int))
  && decide (f.length≤f.length)) (.need (decide (k < f.length)) (.br (!((l.getD k (QA.mk (0:Int) (0:Int))).cell == (f.getD k (QA.mk (0:Int) (0:Int))).cell&&((l.getD k
  (QA.mk (0:Int) (0:Int))).turn == (f.getD k (QA.mk (0:Int) (0:Int))).turn&&true))) (.need (decide ((0:Int)≤(↑k:Int))) (.leaf (.tup (Hf k l n)) ([(Xt f),(qx
  moved),(G9 k turned),(Yo l),(Xu f)]))) (.leaf (.tup (Hf k l n)) ([(Xt f),(qx moved),(jZ turned),(Yo l),(Xu f)])))))))))) (.leaf (.tup [.ptr 0 0 0,.ptr 44 0
  0,.int false .i64 n]) ([(Xt f),(qx moved),(jZ turned),(Xu f)])):=by kernel_rfl
noncomputable abbrev Hx (k:Nat) (l:List QA) (n:Int):List AV:=
  [.int false .i64 n,.ptr 120 0 0,.ptr 112 0 0,.ptr 104 0 0,.slz 200 0 l.length (Cap.of 0),.int false .i64 (↑l.length:Int),.int false .i64 (IntKind.i64.wrap ((↑k:Int) + (1 :
  Int)))]
theorem QTd (l f:List QA) (n moved turned moved' turned':Int) (k k':Nat) :QO 216 (Hx k l n) ([(Xt f),(G1 k moved),(G9 k turned),(Yo l),(Xu f)]) (tmJ l f n moved' turned' k')=( some [n=n,0=0,0=0,0=0,0=0,0=0,0=0,0 =
  0,l.length=l.length,Cap.of 0=Cap.of 0,(↑l.length:Int)=(↑l.length:Int),IntKind.i64.wrap ((↑k:Int) + (1:Int))=(↑k':Int),l.length≤l.length,QD 2 l.length
  (fun i=>QB.enc (l.getD i (QA.mk (0:Int) (0:Int)))) fun i=>QB.enc (l.getD i (QA.mk (0:Int) (0:Int))),0=0,f.length=f.length,Cap.of 0=Cap.of 0,f.length ≤
  f.length,QD 2 f.length (fun i=>QB.enc (f.getD i (QA.mk (0:Int) (0:Int)))) fun i=>QB.enc (f.getD i (QA.mk (0:Int) (0:Int))),IntKind.i64.wrap (↑(BitVec.ofInt
  64 moved ||| BitVec.ofInt 64 (IntKind.i64.wrap ((1:Int) * (2:Int) ^ min k 64))).toNat:Int)=moved',IntKind.i64.wrap (↑(BitVec.ofInt 64 turned ||| BitVec.ofInt 64
  (IntKind.i64.wrap ((1:Int) * (2:Int) ^ min k 64))).toNat:Int)=turned']):=by kernel_rfl
theorem QN3 (l f:List QA) (n moved turned moved' turned':Int) (k k':Nat) :QO 216 (Hx k l n) ([(Xt f),(G1 k moved),(jZ turned),(Yo l),(Xu f)]) (tmJ l f n moved' turned' k')=( some [n=n,0=0,0=0,0=0,0=0,0=0,0=0,0=0,
  l.length=l.length,Cap.of 0=Cap.of 0,(↑l.length:Int)=(↑l.length:Int),IntKind.i64.wrap ((↑k:Int) + (1:Int))=(↑k':Int),l.length≤l.length,QD 2 l.length (fun
  i=>QB.enc (l.getD i (QA.mk (0:Int) (0:Int)))) fun i=>QB.enc (l.getD i (QA.mk (0:Int) (0:Int))),0=0,f.length=f.length,Cap.of 0=Cap.of 0,f.length ≤
  f.length,QD 2 f.length (fun i=>QB.enc (f.getD i (QA.mk (0:Int) (0:Int)))) fun i=>QB.enc (f.getD i (QA.mk (0:Int) (0:Int))),IntKind.i64.wrap (↑(BitVec.ofInt
  64 moved ||| BitVec.ofInt 64 (IntKind.i64.wrap ((1:Int) * (2:Int) ^ min k 64))).toNat:Int)=moved',turned=turned']):=by kernel_rfl
theorem QQv (l f:List QA) (n moved turned moved' turned':Int) (k k':Nat) :QO 216 (Hx k l n) ([(Xt f),(qx moved),(G9 k turned),(Yo l),(Xu f)]) (tmJ l f n moved' turned' k')=( some [n=n,0=0,0=0,0=0,0=0,0=0,0=0,0=0,
  l.length=l.length,Cap.of 0=Cap.of 0,(↑l.length:Int)=(↑l.length:Int),IntKind.i64.wrap ((↑k:Int) + (1:Int))=(↑k':Int),l.length≤l.length,QD 2 l.length (fun
  i=>QB.enc (l.getD i (QA.mk (0:Int) (0:Int)))) fun i=>QB.enc (l.getD i (QA.mk (0:Int) (0:Int))),0=0,f.length=f.length,Cap.of 0=Cap.of 0,f.length ≤
  f.length,QD 2 f.length (fun i=>QB.enc (f.getD i (QA.mk (0:Int) (0:Int)))) fun i=>QB.enc (f.getD i (QA.mk (0:Int) (0:Int))),moved=moved',IntKind.i64.wrap
  (↑(BitVec.ofInt 64 turned ||| BitVec.ofInt 64 (IntKind.i64.wrap ((1:Int) * (2:Int) ^ min k 64))).toNat:Int)=turned']):=by kernel_rfl
theorem QL5 (l f:List QA) (n moved turned moved' turned':Int) (k k':Nat) :QO 216 (Hx k l n) ([(Xt f),(qx moved),(jZ turned),(Yo l),(Xu f)]) (tmJ l f n moved' turned' k')=( some [n=n,0=0,0=0,0=0,0=0,0=0,0=0,0=0,
  l.length=l.length,Cap.of 0=Cap.of 0,(↑l.length:Int)=(↑l.length:Int),IntKind.i64.wrap ((↑k:Int) + (1:Int))=(↑k':Int),l.length≤l.length,QD 2 l.length (fun
  i=>QB.enc (l.getD i (QA.mk (0:Int) (0:Int)))) fun i=>QB.enc (l.getD i (QA.mk (0:Int) (0:Int))),0=0,f.length=f.length,Cap.of 0=Cap.of 0,f.length ≤
  f.length,QD 2 f.length (fun i=>QB.enc (f.getD i (QA.mk (0:Int) (0:Int)))) fun i=>QB.enc (f.getD i (QA.mk (0:Int) (0:Int))),moved=moved',turned =
  turned']):=by kernel_rfl
theorem QMu (f:List QA) (n moved turned moved' turned':Int):QO 216 [AV.int false IntKind.i64 n] ([((120:Nat),Blk.cells (0:Nat) (38:Nat) [AV.slz (232:Nat) (0:Nat) f.length (Cap.of (0:Nat))]),((112:Nat),Blk.cells (0:Nat) (92:Nat) [AV.int false IntKind.i64 moved]),((104:Nat),Blk.cells (0:Nat) (92:Nat) [AV.int false IntKind.i64 turned]),((232:Nat),Blk.rowz true (56:Nat) [CK.int IntKind.i64,CK.int IntKind.i64] f.length fun i=>QB.enc (f.getD i (QA.mk (0:Int) (0:Int))))]) (tmE f n moved' turned')=(
  some [n=n,(0:Nat)=(0:Nat),f.length=f.length,Cap.of (0:Nat)=Cap.of (0:Nat),f.length≤f.length,QD (2:Nat) f.length (fun i=>QB.enc (f.getD i (QA.mk (0
  : Int) (0:Int)))) fun i=>QB.enc (f.getD i (QA.mk (0:Int) (0:Int))),moved=moved',turned=turned']):=by kernel_rfl
def Vz (l f:List QA) (k:Nat):Bool := !((l.getD k ⟨0,0⟩).cell == (f.getD k ⟨0,0⟩).cell&&((l.getD k ⟨0,0⟩).turn == (f.getD k ⟨0,0⟩).turn&&true))
def mvL (l f:List QA) (m:Int):Nat→Int
 | 0=>m
 | k + 1=>match (l.getD k ⟨0,0⟩).cell != (f.getD k ⟨0,0⟩).cell with
  | true=>Vc (mvL l f m k) k
  | false=>mvL l f m k
def tuL (l f:List QA) (m:Int):Nat→Int
 | 0=>m
 | k + 1=>match Vz l f k with
  | true=>Vc (tuL l f m k) k
  | false=>tuL l f m k
theorem QK0 (l f:List QA) (n moved turned:Int) (hl:l.length≤1000) (hf:l.length≤f.length):JK (fun k=>tmJ l f n (mvL l f moved k) (tuL l f turned k) k) (fun k=>k≤l.length) (fun k=>l.length - k) (fun _ e J=>e = .exit 0∧J=tmE f n (mvL l f moved l.length) (tuL l f turned l.length)) 216 QDO QCj (mkE Try.prog Qu) (fun _=>hnd (mkE Try.prog Qu) 3) (Qf Try.f62 0):=by
 refine ⟨fun k g hk=>KF (QN8 l f n (mvL l f moved k) (tuL l f turned k) k g) ?_⟩
 refine QL (fun h => ?_) (fun h => ?_)
 ·have h:k < l.length:=by have:=of_decide_eq_true h;omega
  have hw:=Xo h hl
  refine QF (by simp;omega) (QF (by simp;omega) (QF (by simp;omega) (QF (by simp;omega) (QL (fun hc => ?_) (fun hc => ?_)))))
  ·refine QF (by simp) (QF (by simp;omega) (QF (by simp;omega) (QL (fun hd=>QF (by simp) ?_) (fun hd => ?_))))
   ·refine ⟨k + 1,h,by show l.length - (k + 1) < l.length - k;omega,fun _ _ h=>h,rfl,rfl,_,QTd l f n (mvL l f moved k) (tuL l f turned k) (mvL l f moved (k + 1)) (tuL l f turned (k + 1)) k (k + 1),?_⟩
    have e1:Vc (mvL l f moved k) k=mvL l f moved (k + 1):=by simp only [mvL,hc]
    have e2:Vc (tuL l f turned k) k=tuL l f turned (k + 1):=by simp only [tuL,Vz,hd]
    repeat' first|exact trivial|with_reducible rfl|exact Nat.le_refl _|exact QD.refl _ _ _|exact hw|exact e1|exact e2|refine And.intro ?_ ?_
   ·refine ⟨k + 1,h,by show l.length - (k + 1) < l.length - k;omega,fun _ _ h=>h,rfl,rfl,_,QN3 l f n (mvL l f moved k) (tuL l f turned k) (mvL l f moved (k + 1)) (tuL l f turned (k + 1)) k (k + 1),?_⟩
    have e1:Vc (mvL l f moved k) k=mvL l f moved (k + 1):=by simp only [mvL,hc]
    have e2:tuL l f turned k=tuL l f turned (k + 1):=by simp only [tuL,Vz,hd]
    repeat' first|exact trivial|with_reducible rfl|exact Nat.le_refl _|exact QD.refl _ _ _|exact hw|exact e1|exact e2|refine And.intro ?_ ?_
  ·refine QF (by simp;omega) (QF (by simp;omega) (QL (fun hd=>QF (by simp) ?_) (fun hd => ?_)))
   ·refine ⟨k + 1,h,by show l.length - (k + 1) < l.length - k;omega,fun _ _ h=>h,rfl,rfl,_,QQv l f n (mvL l f moved k) (tuL l f turned k) (mvL l f moved (k + 1)) (tuL l f turned (k + 1)) k (k + 1),?_⟩
    have e1:mvL l f moved k=mvL l f moved (k + 1):=by simp only [mvL,hc]
    have e2:Vc (tuL l f turned k) k=tuL l f turned (k + 1):=by simp only [tuL,Vz,hd]
    repeat' first|exact trivial|with_reducible rfl|exact Nat.le_refl _|exact QD.refl _ _ _|exact hw|exact e1|exact e2|refine And.intro ?_ ?_
   ·refine ⟨k + 1,h,by show l.length - (k + 1) < l.length - k;omega,fun _ _ h=>h,rfl,rfl,_,QL5 l f n (mvL l f moved k) (tuL l f turned k) (mvL l f moved (k + 1)) (tuL l f turned (k + 1)) k (k + 1),?_⟩
    have e1:mvL l f moved k=mvL l f moved (k + 1):=by simp only [mvL,hc]
    have e2:tuL l f turned k=tuL l f turned (k + 1):=by simp only [tuL,Vz,hd]
    repeat' first|exact trivial|with_reducible rfl|exact Nat.le_refl _|exact QD.refl _ _ _|exact hw|exact e1|exact e2|refine And.intro ?_ ?_
 ·have:k=l.length:=by have:=of_decide_eq_false h;omega
  subst this
  refine ⟨_,⟨rfl,rfl⟩,rfl,rfl,_,QMu f n (mvL l f moved l.length) (tuL l f turned l.length) _ _,?_⟩
  repeat' first|exact trivial|with_reducible rfl|exact Nat.le_refl _|exact QD.refl _ _ _|refine And.intro ?_ ?_
def zh (pb:List Prop→Bool) (l:List QA):Tab:=QX Qu 56 (Ji pb (clU l))
abbrev tmH (P:Program) (T:Tab) (l f:List QA) (n moved turned moved' turned':Int):Hnd:={ hnd (mkE P T) 1 with loop:=fun _=>KC 216 QCj (tmJ l f n moved turned (0:Nat)) [(True,.exit 0,tmE f n moved' turned')] }
theorem QRf {T:Tab} (hT:QU T) (l f:List QA) (n moved turned:Int) (hl:l.length≤1000) (hf:l.length≤f.length) (G:Ctx) (hrd:G.rd=none) (hG:G.n=216):Q4 (mkE Try.prog T) G (tmH Try.prog T l f n moved turned (mvL l f moved l.length) (tuL l f turned l.length)) (Qm Try.f62):=by
 refine JR (body:=Qf Try.f62 0) (QN hT) hrd (by kernel_rfl) ?_
 refine WC (E:=mkE Try.prog Qu) rfl (Je (n0:=216) (QN KD) (by omega) (fun s hs=>Qt (QN KD) 3 G _ hrd) (fun s hs=>(by decide:216≤288)) ?_ (QK0 l f n moved turned hl hf) (s0:=0) (Nat.zero_le _) ?_)
 ·rintro s e J ⟨_,rfl⟩;exact (by decide:216≤288)
 ·rintro e J ⟨rfl,rfl⟩
  exact ⟨_,List.mem_cons_self,trivial,rfl,rfl⟩
def tmU (l f:List QA) (n moved turned:Int) (f2:List QA) (moved' turned':Int):UC:=⟨128,⟨5,[(0,.int false .i64 n),(1,.slz 200 0 l.length (.of 0)),(2,.ptr 120 0 0),(3,.ptr 112 0 0),(4,.ptr 104 0 0)],tmB 208 l f moved turned,216⟩,fun _ => .int false .i64 (IntKind.i64.wrap (n + 1)),fun m=>tmS m f2 moved' turned'⟩
noncomputable abbrev QJy (f2:List QA) (moved':Int) (turned':Int):List (Nat×Blk):=
  [(120,.cells 0 38 [.slz 232 0 f2.length (Cap.of 0)]),(112,.cells 0 92 [.int false .i64 moved']),(104,.cells 0 92 [.int false .i64 turned']),(232,.rowz true 56 [.int .i64,
  .int .i64] f2.length fun i=>QB.enc (f2.getD i (QA.mk (0:Int) (0:Int))))]
theorem QMy (pb:List Prop→Bool) (l f f2:List QA) (n moved turned moved' turned':Int) :VG (mkE Try.prog (zh pb l)) (tmH Try.prog (zh pb l) l f2 n moved turned moved' turned') Try.f62 (tmU l f n moved turned f2 moved' turned') = .br (n == (0:Int)) (.need
  (pb ([0=0,l.length=l.length,Cap.of 0=Cap.of 0,l.length≤l.length,QD 2 l.length (fun i=>QB.enc (l.getD i (QA.mk (0:Int) (0:Int)))) fun i=>QB.enc (l.getD
  i (QA.mk (0:Int) (0:Int)))])) (.ask (n=n) (.ask (0=0) (.ask (0=0) (.ask (0=0) (.ask (0=0) (.ask (0=0) (.ask (0=0) (.ask (0=0) (.ask (l.length=l.length) (.ask
  (Cap.of 0=Cap.of 0) (.ask ((↑l.length:Int)=(↑l.length:Int)) (.ask ((0:Int)=(0:Int)) (.ask (l.length≤l.length) (.ask (QD 2 l.length (fun i=>QB.enc (l.getD i
  (QA.mk (0:Int) (0:Int)))) fun i=>QB.enc (l.getD i (QA.mk (0:Int) (0:Int)))) (.ask (0=0) (.ask (l.length=f2.length) (.ask (Cap.of 0=Cap.of 0) (.ask (f2.length ≤
  l.length) (.ask (QD 2 f2.length (fun i=>QB.enc (l.getD i (QA.mk (0:Int) (0:Int)))) fun i=>QB.enc (f2.getD i (QA.mk (0:Int) (0:Int)))) (.ask (moved=moved)
  (.ask (turned=turned) (.asm (True) (.all (fun (g0:Nat→Value) => .leaf (.int false .i64 (IntKind.i64.wrap (n + (1:Int)))) ((QJy f2 moved' turned')))))))))))))))))))))))))))
  (.ask (n=n) (.ask (0=0) (.ask (0=0) (.ask (0=0) (.ask (0=0) (.ask (0=0) (.ask (0=0) (.ask (0=0) (.ask (l.length=l.length) (.ask (Cap.of 0=Cap.of 0) (.ask
  ((↑l.length:Int)=(↑l.length:Int)) (.ask ((0:Int)=(0:Int)) (.ask (l.length≤l.length) (.ask (QD 2 l.length (fun i=>QB.enc (l.getD i (QA.mk (0:Int) (0 :
  Int)))) fun i=>QB.enc (l.getD i (QA.mk (0:Int) (0:Int)))) (.ask (0=0) (.ask (f.length=f2.length) (.ask (Cap.of 0=Cap.of 0) (.ask (f2.length≤f.length) (.ask (QD
  2 f2.length (fun i=>QB.enc (f.getD i (QA.mk (0:Int) (0:Int)))) fun i=>QB.enc (f2.getD i (QA.mk (0:Int) (0:Int)))) (.ask (moved=moved) (.ask (turned=turned)
  (.asm (True) (.all (fun (g1:Nat→Value) => .leaf (.int false .i64 (IntKind.i64.wrap (n + (1:Int)))) ((QJy f2 moved' turned')))))))))))))))))))))))))):=by kernel_rfl
theorem QDV (f2:List QA) (l f:List QA) (n moved turned moved' turned':Int):QO 216 [(AV.int false IntKind.i64 (IntKind.i64.wrap (n + (1:Int))))] ([((120:Nat),Blk.cells (0:Nat) (38:Nat) [AV.slz (232:Nat) (0:Nat) f2.length (Cap.of (0:Nat))]),((112:Nat),Blk.cells (0:Nat) (92:Nat) [AV.int false IntKind.i64 moved']),((104:Nat),Blk.cells (0:Nat) (92:Nat) [AV.int false IntKind.i64 turned']),((232:Nat),Blk.rowz true (56:Nat) [CK.int IntKind.i64,CK.int IntKind.i64] f2.length fun i=>QB.enc (f2.getD i (QA.mk (0:Int) (0:Int))))]) (K2 (tmU l f n moved turned f2 moved' turned'))=(
  some [IntKind.i64.wrap (n + (1:Int))=IntKind.i64.wrap (n + (1:Int)),(0:Nat)=(0:Nat),f2.length=f2.length,Cap.of (0:Nat)=Cap.of (0:Nat),f2.length≤f2.length,
  QD (2:Nat) f2.length (fun i=>QB.enc (f2.getD i (QA.mk (0:Int) (0:Int)))) fun i=>QB.enc (f2.getD i (QA.mk (0:Int) (0:Int))),moved'=moved',turned' =
  turned']):=by kernel_rfl
theorem QNG (l f:List QA) (n moved turned:Int) (f2:List QA) (moved' turned':Int):(tmU l f n moved turned f2 moved' turned').Ok:=by
 refine ⟨(by decide:128≤216),rfl,rfl,?_,rfl,fun _ _=>rfl,fun nid h => ?_⟩
 ·intro q hq
  simp only [UC.po,tmU,tmS,rwL,List.mem_cons,List.not_mem_nil,or_false] at hq
  rcases hq with rfl|rfl|rfl|rfl<;>refine ⟨rfl,rfl,rfl,?_⟩<;>first|exact fun _=>rfl|exact fun h=>absurd (show 216 < 128 from h) (by decide)
 ·have e0:=qT 128 216 0 nid (by decide)
  simp only [UC.po,tmU,tmS,rwL,List.map_cons,List.map_nil,Blk.mapId,AV.mapId,AV.mapIdL,Nat.add_zero] at e0 ⊢
  rw [e0]
  rfl
def Qz (n:Int) (l f:List QA):List QA:=match n == 0 with
 | true=>l
 | false=>f
theorem QLd (l f:List QA) (n moved turned:Int) (hp:0 < l.length) (hl:l.length≤1000) (hf:(n == 0)=false→f.length=l.length):QM Try.prog 62 (uFC (tmU l f n moved turned (Qz n l f) (mvL l (Qz n l f) moved l.length) (tuL l (Qz n l f) turned l.length))):=by
 have hT:QU (zh Qo l):=KD.add (QS4 l hp hl)
 have hf2:l.length≤(Qz n l f).length:=by
  unfold Qz
  split
  ·exact Nat.le_refl _
  ·rename_i h;rw [hf h];exact Nat.le_refl _
 have h1:(n == 0)=true→Qz n l f=l:=fun h=>by unfold Qz;rw [h]
 have h2:(n == 0)=false→Qz n l f=f:=fun h=>by unfold Qz;rw [h]
 refine Jz (E:=mkE Try.prog (zh Qo l)) (QN hT) Try.func62 (by kernel_rfl) (by kernel_rfl) (QNG ..) (QRf hT l (Qz n l f) n moved turned hl hf2) ⟨?_⟩
 generalize Qz n l f=f2 at h1 h2
 refine KF (QMy Qo l f f2 n moved turned _ _) ?_
 refine QL (fun h=>QF (Kr.2 ?_) ?_) (fun h => ?_)
 ·repeat' first|exact trivial|with_reducible rfl|exact Nat.le_refl _|exact QD.refl _ _ _|refine And.intro ?_ ?_
 ·obtain rfl:=h1 h
  repeat' first|refine Qc (p:=_=_) rfl ?_|refine Qc (p:=_≤_) (Nat.le_refl _) ?_|refine Qc (p:=QD _ _ _ _) (QD.refl _ _ _) ?_
  refine KQ fun _=>KX fun g=>⟨rfl,rfl,_,QDV f2 f2 f n moved turned _ _,?_⟩
  repeat' first|exact trivial|with_reducible rfl|exact Nat.le_refl _|exact QD.refl _ _ _|refine And.intro ?_ ?_
 ·obtain rfl:=h2 h
  repeat' first|refine Qc (p:=_=_) rfl ?_|refine Qc (p:=_≤_) (Nat.le_refl _) ?_|refine Qc (p:=QD _ _ _ _) (QD.refl _ _ _) ?_
  refine KQ fun _=>KX fun g=>⟨rfl,rfl,_,QDV f2 l f2 n moved turned _ _,?_⟩
  repeat' first|exact trivial|with_reducible rfl|exact Nat.le_refl _|exact QD.refl _ _ _|refine And.intro ?_ ?_
end Go.Proofs.Ytbpffdkemeoajaa
namespace Go.Proofs.Ytbpffdkemeoajaa
open Go.SX
end Go.Proofs.Ytbpffdkemeoajaa
namespace Go.Proofs.Ytbpffdkemeoajaa
open Go.SX
def tdT:List AV:=[.ptr 40 0 0,.int true .i64 0,.fn (.func 62) [.ptr 120 0 0,.ptr 112 0 0,.ptr 104 0 0],.tup [],.ptr 168 0 0,.ptr 176 0 0,.int true .i64 0,.bool true false,.ptr 200 0 0,.tup [],.ptr 40 0 0,.fn (.func 76) [.ptr 224 0 0],.tup [],.tup [],.tup [],.tup [],.tup [],.tup [],.tup [],.tup [],.tup [],.tup []]
def QAz:List AV:=[.ptr 296 0 0,.ptr 224 0 0,.ptr 280 0 0,.ptr 264 0 0,.ptr 304 0 0]
def tdR (x:QE) (C:List (List QA)):List (Nat×Blk):=
 [(304,.cellsR 0 34 [.fn (.func 77) QAz]),(280,.cellsR 0 63 [.map 272]),(264,.cellsR 0 123 [.yld 257]),(224,.cellsR 0 89 [.ptr 40 0 0]),(176,.cellsR 0 101 [.fn (.func 62) [.ptr 120 0 0,.ptr 112 0 0,.ptr 104 0 0]]),(40,.cellsR 0 125 (srK 41 x C)),Yl false 41 C]++K9 0 x
def tdW (ac body:Code) (l:List QA) (a:Nat) (b:Nat) (has:Int→Bool) (many n:Int) (f:List QA) (moved turned:Int):List (Nat×Blk):=
 [(296,.cells 0 38 [.slz a 0 l.length (.of 0)]),rwL a l,(272,.mpf .i64 (.int true .i64 0) has fun i => .int false .i64 (QI l i)),(257,.lp .ready none tdT #[12] ac body),(200,.cells 0 3 [.int false .i64 many]),(168,.cells 0 3 [.int false .i64 n]),(120,.cells 0 38 [.slz b 0 f.length (.of 0)]),rwL b f,(112,.cells 0 92 [.int false .i64 moved]),(104,.cells 0 92 [.int false .i64 turned])]
def zE (x:QE) (C:List (List QA)) (ac body:Code) (l:List QA) (has:Int→Bool) (many n:Int) (f:List QA) (moved turned:Int):JSt:=
 ⟨5,[(0,.ptr 296 0 0),(1,.ptr 224 0 0),(2,.ptr 280 0 0),(3,.ptr 264 0 0),(4,.ptr 304 0 0)],tdW ac body l 344 352 has many n f moved turned++tdR x C,360⟩
def tdU (x:QE) (C:List (List QA)) (ac body:Code) (l:List QA) (has:Int→Bool) (many n:Int) (f:List QA) (moved turned:Int) (has':Int→Bool) (many' n':Int) (f':List QA) (moved' turned':Int):UC:=
 ⟨336,zE x C ac body l has many n f moved turned,fun _ => .bool false true,fun m=>tdW ac body l m (m + 1) has' many' n' f' moved' turned'⟩
def tdJ (x:QE) (C:List (List QA)) (ac body:Code) (cs l:List QA) (has:Int→Bool) (many n:Int) (f:List QA) (moved turned:Int) (k:Nat):JSt:=
 ⟨98,[(0,.ptr 296 0 0),(1,.ptr 224 0 0),(2,.ptr 280 0 0),(3,.ptr 264 0 0),(4,.ptr 304 0 0),(48,.slz 384 0 cs.length (.of 0)),(49,.int false .i64 cs.length),(50,.int false .i64 k)],
  (384,.frz [.int .i64,.int .i64] cs.length fun i=>QB.enc (cs.getD i ⟨0,0⟩))::tdW ac body l 368 376 has many n f moved turned++tdR x C,400⟩
def tdE (ac body:Code) (l:List QA) (has:Int→Bool) (many n:Int) (f:List QA) (moved turned:Int):JSt:=⟨98,[],tdW ac body l 368 376 has many n f moved turned,400⟩
def qr:List Nat:=[296,272,257,200,168,120,112,104]
noncomputable abbrev Wo (cs:List QA) (k:Nat):List AV:=
  [.nilp,.ptr 98 0 0,.ptr 296 0 0,.ptr 224 0 0,.ptr 280 0 0,.ptr 264 0 0,.ptr 304 0 0,.slz 384 0 cs.length (Cap.of 0),.int false .i64 (↑cs.length:Int),.int false .i64
  (IntKind.i64.wrap ((↑k:Int) + (1:Int)))]
noncomputable abbrev Y7 (ac:Code) (body:Code):Nat×Blk:=
  (257,.lp LoopState.ready none tdT (Array.mk [12]) ac body)
noncomputable abbrev zy (many:Int):Nat×Blk:=
  (200,.cells 0 3 [.int false .i64 many])
noncomputable abbrev zb (n:Int):Nat×Blk:=
  (168,.cells 0 3 [.int false .i64 n])
noncomputable abbrev Hj (f:List QA):Nat×Blk:=
  (120,.cells 0 38 [.slz 376 0 f.length (Cap.of 0)])
noncomputable abbrev GV (moved:Int):Nat×Blk:=
  (112,.cells 0 92 [.int false .i64 moved])
noncomputable abbrev zg (turned:Int):Nat×Blk:=
  (104,.cells 0 92 [.int false .i64 turned])
noncomputable abbrev YX:Nat×Blk:=
  (224,.cellsR 0 89 [.ptr 40 0 0])
noncomputable abbrev vW:Nat×Blk:=
  (304,.cellsR 0 34 [.fn (Fn.func 77) [.ptr 296 0 0,.ptr 224 0 0,.ptr 280 0 0,.ptr 264 0 0,.ptr 304 0 0]])
noncomputable abbrev jK (cs:List QA):Nat×Blk:=
  (384,.frz [.int .i64,.int .i64] cs.length fun i=>QB.enc (cs.getD i (QA.mk (0:Int) (0:Int))))
noncomputable abbrev ZA (C:List (List QA)) (x:QE):Nat×Blk:=
  (40,.cellsR 0 125 [.int false .i64 x.d.play.length,.int false .i64 x.d.play.slack,.int false .i64 x.d.play.loose,.int false .i64 x.d.play.damp.lo,.int false .i64
  x.d.play.damp.hi,.int false .i64 x.d.wide,.int false .i64 x.d.high,.bool false x.d.turn,.slz 0 0 x.d.ps.n (Cap.of 0),.slz 1 0 x.scans.n (Cap.of 0),.slz 2 0 x.hang.n (Cap.of
  0),.int false .i64 x.lost,.int false .i64 x.foreign,.slz 41 0 C.length (Cap.of 0)])
noncomputable abbrev Y1:Nat×Blk:=
  (176,.cellsR 0 101 [.fn (Fn.func 62) [.ptr 120 0 0,.ptr 112 0 0,.ptr 104 0 0]])
noncomputable abbrev HI (f:List QA):Nat×Blk:=
  (376,.rowz true 56 [.int .i64,.int .i64] f.length fun i=>QB.enc (f.getD i (QA.mk (0:Int) (0:Int))))
noncomputable abbrev Jq:List CK:=
  [.int .i64,.int .i64,.int .i64,.int .i64,.int .i64,.int .i64,.int .i64,.int .i64,.int .i64,.int .i64,.int .i64,.int .i64,.int .i64,.int .i64,.int .i64,.int .i64,.int
  .i64,.int .i64,.int .i64,.int .i64,.int .i64,.int .i64,.int .i64,.int .i64,.int .i64,.int .i64,.int .i64,.int .i64]
noncomputable abbrev Yj (x:QE):Nat×Blk:=
  (2,.frz [.int .i64,.int .i64,.int .i64,.int .i64] x.hang.n fun i=>QB.enc (x.hang.get i))
noncomputable abbrev X6 (C:List (List QA)):Nat×Blk:=
  (41,.frz2 false 38 [.int .i64,.int .i64] C.length (fun i=>(QJ C i).length) fun i j=>QB.enc ((QJ C i).getD j (QA.mk (0:Int) (0:Int))))
noncomputable abbrev QCA (C:List (List QA)) (ac:Code) (body:Code) (cs:List QA) (f:List QA) (has:Int→Bool) (l:List QA) (many:Int) (moved:Int) (n:Int) (turned:Int) (x:QE):List (Nat×Blk):=
  [(296,.cells 0 38 [.slz 368 0 l.length (Cap.of 0)]),(272,.mpf IntKind.i64 (.int true .i64 (0:Int)) has fun i => .int false .i64 (QI l i)),(Y7 ac body),(zy many),
  (zb n),(Hj f),(GV moved),(zg turned),YX,(280,.cellsR 0 63 [.map 272]),(264,.cellsR 0 123 [.yld 257]),vW,(jK cs),(368,.rowz true 56 [.int .i64,.int
  .i64] l.length fun i=>QB.enc (l.getD i (QA.mk (0:Int) (0:Int)))),(ZA C x),Y1,(HI f),(0,.frz Jq x.d.ps.n fun i=>QB.enc (x.d.ps.get i)),(1,.frz Jq
  x.scans.n fun i=>QB.enc (x.scans.get i)),(Yj x),(X6 C)]
noncomputable abbrev vV (cs:List QA) (k:Nat):List AV:=
  [.int false .i64 (cs.getD k (QA.mk (0:Int) (0:Int))).cell,.int false .i64 (cs.getD k (QA.mk (0:Int) (0:Int))).turn]
noncomputable abbrev QGT (C:List (List QA)) (cs:List QA) (k:Nat) (l:List QA) (l2:List QA) (x:QE):List Prop:=
  [0=0,0=0,0=0,l.length + 1=l2.length,Cap.of 0=Cap.of 0,l2.length≤l.length + 1,QD 2 l2.length (Q1 l.length (fun i=>QB.enc (l.getD i (QA.mk (0:Int) (0
  : Int)))) (Qb [(vV cs k)] 0)) fun i=>QB.enc (l2.getD i (QA.mk (0:Int) (0:Int))),x.d.play.length=x.d.play.length,x.d.play.slack=x.d.play.slack,x.d.play.loose =
  x.d.play.loose,x.d.play.damp.lo=x.d.play.damp.lo,x.d.play.damp.hi=x.d.play.damp.hi,x.d.wide=x.d.wide,x.d.high=x.d.high,x.d.turn=x.d.turn,0=0,x.d.ps.n=x.d.ps.n,
  Cap.of 0=Cap.of 0,0=0,x.scans.n=x.scans.n,Cap.of 0=Cap.of 0,0=0,x.hang.n=x.hang.n,Cap.of 0=Cap.of 0,x.lost=x.lost,x.foreign=x.foreign,0=0,C.length =
  C.length,Cap.of 0=Cap.of 0,C.length=C.length,Kd 2 C.length (fun i=>(QJ C i).length) (fun i=>(QJ C i).length) (fun i j=>QB.enc ((QJ C i).getD j (QA.mk (0
  : Int) (0:Int)))) fun i j=>QB.enc ((QJ C i).getD j (QA.mk (0:Int) (0:Int))),x.d.ps.n≤x.d.ps.n,QD 28 x.d.ps.n (fun i=>QB.enc (x.d.ps.get i)) fun i=>
  QB.enc (x.d.ps.get i),x.scans.n≤x.scans.n,QD 28 x.scans.n (fun i=>QB.enc (x.scans.get i)) fun i=>QB.enc (x.scans.get i),x.hang.n≤x.hang.n,QD 4 x.hang.n
  (fun i=>QB.enc (x.hang.get i)) fun i=>QB.enc (x.hang.get i)]
noncomputable abbrev QKh (cs:List QA) (has:Int→Bool) (k:Nat) (l:List QA):Nat×Blk:=
  (272,.mpf IntKind.i64 (.int true .i64 (0:Int)) (Qh (cs.getD k (QA.mk (0:Int) (0:Int))).cell true (Qh (cs.getD k (QA.mk (0:Int) (0:Int))).cell true has)) (KI
  (cs.getD k (QA.mk (0:Int) (0:Int))).cell (.int false .i64 (IntKind.i64.wrap (toI (Bool.rec ((fun _=>(fun i => .int false .i64 (QI l i)) ((fun i=>QB.enc (cs.getD i
  (QA.mk (0:Int) (0:Int)))) ((↑k:Int).toNat + 0) 0)) ()) ((fun _ => .int false .i64 (IntKind.i64.wrap (toI ((fun i => .int false .i64 (QI l i)) ((fun i=>QB.enc (cs.getD
  i (QA.mk (0:Int) (0:Int)))) ((↑k:Int).toNat + 0) 0)) + (1:Int)))) ()) (decide ((fun i=>QB.enc (cs.getD i (QA.mk (0:Int) (0:Int)))) ((↑k:Int).toNat + 0) 0 =
  (fun i=>QB.enc (cs.getD i (QA.mk (0:Int) (0:Int)))) ((↑k:Int).toNat + 0) 0))) - (1:Int)))) (KI (cs.getD k (QA.mk (0:Int) (0:Int))).cell (.int false .i64
  (IntKind.i64.wrap (toI (.int false .i64 (QI l (cs.getD k (QA.mk (0:Int) (0:Int))).cell)) + (1:Int)))) fun i => .int false .i64 (QI l i))))
noncomputable abbrev QHr (C:List (List QA)) (ac:Code) (body:Code) (cs:List QA) (f:List QA) (has:Int→Bool) (k:Nat) (l:List QA) (many:Int) (moved:Int) (n:Int) (turned:Int) (x:QE):List (Nat×Blk):=
  [(296,.cells 0 38 [.slz 592 0 (IntKind.i64.wrap ((↑(l.length + 1):Int) - (1:Int))).toNat (Cap.of 0)]),(QKh cs has k l),(Y7 ac body),(zy many),(zb n),(Hj f),
  (GV moved),(zg turned),YX,(280,.cellsR 0 63 [.map 272]),(264,.cellsR 0 123 [.yld 257]),vW,(jK cs),(592,.rowz true 56 [.int .i64,.int .i64] (l.length + 1)
  (Q1 l.length (fun i=>QB.enc (l.getD i (QA.mk (0:Int) (0:Int)))) (Qb [(vV cs k)] 0))),(ZA C x),Y1,(HI f),(0,.frz Jq x.d.ps.n fun i=>QB.enc
  (x.d.ps.get i)),(1,.frz Jq x.scans.n fun i=>QB.enc (x.scans.get i)),(Yj x),(X6 C)]
noncomputable abbrev QIV (C:List (List QA)) (ac:Code) (body:Code) (cs:List QA) (f:List QA) (has:Int→Bool) (has2:Int→Bool) (k:Nat) (l:List QA) (l2:List QA) (many:Int) (moved:Int) (n:Int) (turned:Int) (x:QE):List Prop:=
  [0=0,0=0,0=0,0=0,0=0,0=0,0=0,0=0,0=0,0=0,0=0,l.length + 1=l2.length,Cap.of 0=Cap.of 0,l2.length≤l.length + 1,QD 2 l2.length (Q1
  l.length (fun i=>QB.enc (l.getD i (QA.mk (0:Int) (0:Int)))) (Qb [(vV cs k)] 0)) fun i=>QB.enc (l2.getD i (QA.mk (0:Int) (0:Int))),Kn (.int true .i64 (0
  : Int)) (.int true .i64 (0:Int)) (Qh (cs.getD k (QA.mk (0:Int) (0:Int))).cell true has) has2 (KI (cs.getD k (QA.mk (0:Int) (0:Int))).cell (.int false .i64
  (IntKind.i64.wrap (toI (.int false .i64 (QI l (cs.getD k (QA.mk (0:Int) (0:Int))).cell)) + (1:Int)))) fun i => .int false .i64 (QI l i)) fun i => .int false .i64 (QI
  l2 i),LoopState.ready=LoopState.ready,(none:Option Code)=none,Array.mk [12]=Array.mk [12],ac=ac,body=body,0=0,0=0,(0:Int)=(0:Int),Fn.func 62=Fn.func
  62,0=0,0=0,0=0,0=0,0=0,0=0,0=0,0=0,0=0,0=0,(0:Int)=(0:Int),false=false,0=0,0=0,0=0,0=0,Fn.func 76=Fn.func 76,0=0,0=0,
  many=many,n=n,0=0,f.length=f.length,Cap.of 0=Cap.of 0,f.length≤f.length,QD 2 f.length (fun i=>QB.enc (f.getD i (QA.mk (0:Int) (0:Int)))) fun i=>
  QB.enc (f.getD i (QA.mk (0:Int) (0:Int))),moved=moved,turned=turned,Fn.func 77=Fn.func 77,0=0,0=0,0=0,0=0,0=0,0=0,0=0,0=0,0=0,0=0,0 =
  0,0=0,Fn.func 62=Fn.func 62,0=0,0=0,0=0,0=0,0=0,0=0,x.d.play.length=x.d.play.length,x.d.play.slack=x.d.play.slack,x.d.play.loose=x.d.play.loose,
  x.d.play.damp.lo=x.d.play.damp.lo,x.d.play.damp.hi=x.d.play.damp.hi,x.d.wide=x.d.wide,x.d.high=x.d.high,x.d.turn=x.d.turn,0=0,x.d.ps.n=x.d.ps.n,Cap.of 0 =
  Cap.of 0,0=0,x.scans.n=x.scans.n,Cap.of 0=Cap.of 0,0=0,x.hang.n=x.hang.n,Cap.of 0=Cap.of 0,x.lost=x.lost,x.foreign=x.foreign,0=0,C.length=C.length,
  Cap.of 0=Cap.of 0,C.length=C.length,Kd 2 C.length (fun i=>(QJ C i).length) (fun i=>(QJ C i).length) (fun i j=>QB.enc ((QJ C i).getD j (QA.mk (0:Int) (0
  : Int)))) fun i j=>QB.enc ((QJ C i).getD j (QA.mk (0:Int) (0:Int))),x.d.ps.n≤x.d.ps.n,QD 28 x.d.ps.n (fun i=>QB.enc (x.d.ps.get i)) fun i=>QB.enc
  (x.d.ps.get i),x.scans.n≤x.scans.n,QD 28 x.scans.n (fun i=>QB.enc (x.scans.get i)) fun i=>QB.enc (x.scans.get i),x.hang.n≤x.hang.n,QD 4 x.hang.n (fun i=>
  QB.enc (x.hang.get i)) fun i=>QB.enc (x.hang.get i)]
noncomputable abbrev GB (cs:List QA) (has':Int→Bool) (k:Nat) (l2:List QA):Nat×Blk:=
  (272,.mpf IntKind.i64 (.int true .i64 (0:Int)) (Qh (cs.getD k (QA.mk (0:Int) (0:Int))).cell true has') (KI (cs.getD k (QA.mk (0:Int) (0:Int))).cell (.int false
  .i64 (IntKind.i64.wrap (toI (.int false .i64 (QI l2 (cs.getD k (QA.mk (0:Int) (0:Int))).cell)) - (1:Int)))) fun i => .int false .i64 (QI l2 i)))
noncomputable abbrev HZ (many':Int):Nat×Blk:=
  (200,.cells 0 3 [.int false .i64 many'])
noncomputable abbrev GN (n':Int):Nat×Blk:=
  (168,.cells 0 3 [.int false .i64 n'])
noncomputable abbrev GO (moved':Int):Nat×Blk:=
  (112,.cells 0 92 [.int false .i64 moved'])
noncomputable abbrev zp (turned':Int):Nat×Blk:=
  (104,.cells 0 92 [.int false .i64 turned'])
noncomputable abbrev QGt (C:List (List QA)) (ac:Code) (body:Code) (cs:List QA) (f':List QA) (has':Int→Bool) (k:Nat) (l2:List QA) (many':Int) (moved':Int) (n':Int) (turned':Int) (x:QE):List (Nat×Blk):=
  [(296,.cells 0 38 [.slz 704 0 (IntKind.i64.wrap ((↑l2.length:Int) - (1:Int))).toNat (Cap.of 0)]),(GB cs has' k l2),(Y7 ac body),(HZ many'),(GN n'),(120,.cells
  0 38 [.slz 705 0 f'.length (Cap.of 0)]),(GO moved'),(zp turned'),YX,(280,.cellsR 0 63 [.map 272]),(264,.cellsR 0 123 [.yld 257]),vW,(jK cs),(704,.rowz true
  56 [.int .i64,.int .i64] l2.length fun i=>QB.enc (l2.getD i (QA.mk (0:Int) (0:Int)))),(ZA C x),Y1,(705,.rowz true 56 [.int .i64,.int .i64] f'.length fun i=>
  QB.enc (f'.getD i (QA.mk (0:Int) (0:Int)))),(0,.frz Jq x.d.ps.n fun i=>QB.enc (x.d.ps.get i)),(1,.frz Jq x.scans.n fun i=>QB.enc (x.scans.get i)),(Yj x),
  (X6 C)]
noncomputable abbrev QJ9 (C:List (List QA)) (ac:Code) (body:Code) (cs:List QA) (f:List QA) (has:Int→Bool) (k:Nat) (l:List QA) (many:Int) (moved:Int) (n:Int) (turned:Int) (x:QE):List (Nat×Blk):=
  [(296,.cells 0 38 [.slz 544 0 (IntKind.i64.wrap ((↑(l.length + 1):Int) - (1:Int))).toNat (Cap.of 0)]),(QKh cs has k l),(Y7 ac body),(zy many),(zb n),(Hj f),
  (GV moved),(zg turned),YX,(280,.cellsR 0 63 [.map 272]),(264,.cellsR 0 123 [.yld 257]),vW,(jK cs),(544,.rowz true 56 [.int .i64,.int .i64] (l.length + 1)
  (Q1 l.length (fun i=>QB.enc (l.getD i (QA.mk (0:Int) (0:Int)))) (Qb [(vV cs k)] 0))),(ZA C x),Y1,(HI f),(0,.frz Jq x.d.ps.n fun i=>QB.enc
  (x.d.ps.get i)),(1,.frz Jq x.scans.n fun i=>QB.enc (x.scans.get i)),(Yj x),(X6 C)]
noncomputable abbrev QDW (C:List (List QA)) (ac:Code) (body:Code) (cs:List QA) (f':List QA) (has':Int→Bool) (k:Nat) (l2:List QA) (many':Int) (moved':Int) (n':Int) (turned':Int) (x:QE):List (Nat×Blk):=
  [(296,.cells 0 38 [.slz 656 0 (IntKind.i64.wrap ((↑l2.length:Int) - (1:Int))).toNat (Cap.of 0)]),(GB cs has' k l2),(Y7 ac body),(HZ many'),(GN n'),(120,.cells
  0 38 [.slz 657 0 f'.length (Cap.of 0)]),(GO moved'),(zp turned'),YX,(280,.cellsR 0 63 [.map 272]),(264,.cellsR 0 123 [.yld 257]),vW,(jK cs),(656,.rowz true
  56 [.int .i64,.int .i64] l2.length fun i=>QB.enc (l2.getD i (QA.mk (0:Int) (0:Int)))),(ZA C x),Y1,(657,.rowz true 56 [.int .i64,.int .i64] f'.length fun i=>
  QB.enc (f'.getD i (QA.mk (0:Int) (0:Int)))),(0,.frz Jq x.d.ps.n fun i=>QB.enc (x.d.ps.get i)),(1,.frz Jq x.scans.n fun i=>QB.enc (x.scans.get i)),(Yj x),
  (X6 C)]
noncomputable abbrev QGj (C:List (List QA)) (ac:Code) (body:Code) (f:List QA) (has:Int→Bool) (l:List QA) (many:Int) (moved:Int) (n:Int) (turned:Int) (x:QE):List (Nat×Blk):=
  [(296,.cells 0 38 [.slz 368 0 l.length (Cap.of 0)]),(272,.mpf IntKind.i64 (.int true .i64 (0:Int)) has fun i => .int false .i64 (QI l i)),(Y7 ac body),(zy many),
  (zb n),(Hj f),(GV moved),(zg turned),(368,.rowz true 56 [.int .i64,.int .i64] l.length fun i=>QB.enc (l.getD i (QA.mk (0:Int) (0:Int)))),(ZA C x),
  Y1,YX,(HI f),(0,.frz Jq x.d.ps.n fun i=>QB.enc (x.d.ps.get i)),(1,.frz Jq x.scans.n fun i=>QB.enc (x.scans.get i)),(Yj x),(X6 C)]
theorem QS7 (pb1 pb2:List Prop→Bool) (x:QE) (C:List (List QA)) (ac body:Code) (cs l l2:List QA) (has has2:Int→Bool) (many n:Int) (f:List QA) (moved turned:Int) (k:Nat) (has':Int→Bool) (many' n':Int) (f':List QA) (moved' turned':Int) (g:Nat→Value) :exec (mkE Try.prog (qO pb1 pb2 x C l2 (tdU x C ac body l2 has2 many n f moved turned has' many' n' f' moved' turned'))) (hnd (mkE Try.prog (qO pb1 pb2 x C l2 (tdU x C ac
  body l2 has2 many n f moved turned has' many' n' f' moved' turned'))) 0) (Qf Try.f77 0) (JSt.inst (tdJ x C ac body cs l has many n f moved turned k) g) (KT qr Hz) = .br
  (decide ((↑k:Int) < (↑cs.length:Int))) (.need (decide ((0:Int)≤(↑k:Int)∧(↑k:Int) < (↑cs.length:Int))&&decide (cs.length≤cs.length)) (.need (decide (k <
  cs.length)) (.br ((cs.getD k (QA.mk (0:Int) (0:Int))).cell == (-2:Int)) (.need (isI IntKind.i64 (.int false .i64 (QI l (cs.getD k (QA.mk (0:Int) (0:Int))).cell)))
  (.br (decide (toI (.int false .i64 (QI l (cs.getD k (QA.mk (0:Int) (0:Int))).cell))≥x.foreign)) (.leaf (.tup (Wo cs k)) ((QCA C ac body cs f has l many moved n turned
  x))) (.need (decide (l.length≤l.length)&&(true&&decide ((l.length + 1 + (l.length + 1) / 4 + 192) * 16≤281474976710656∧l.length + 1≤9223372036854775807))) (.need (isI
  IntKind.i64 (.int false .i64 (QI l (cs.getD k (QA.mk (0:Int) (0:Int))).cell))) (.need (pb1 ((QGT C cs k l l2 x))) (.br (!Kk x l2) (.need (isI IntKind.i64 (Bool.rec
  ((fun _=>(fun i => .int false .i64 (QI l i)) ((fun i=>QB.enc (cs.getD i (QA.mk (0:Int) (0:Int)))) ((↑k:Int).toNat + 0) 0)) ()) ((fun _ => .int false .i64
  (IntKind.i64.wrap (toI ((fun i => .int false .i64 (QI l i)) ((fun i=>QB.enc (cs.getD i (QA.mk (0:Int) (0:Int)))) ((↑k:Int).toNat + 0) 0)) + (1:Int)))) ()) (decide
  ((fun i=>QB.enc (cs.getD i (QA.mk (0:Int) (0:Int)))) ((↑k:Int).toNat + 0) 0=(fun i=>QB.enc (cs.getD i (QA.mk (0:Int) (0:Int)))) ((↑k:Int).toNat + 0) 0))))
  (.need (decide ((0:Int)≤IntKind.i64.wrap ((↑(l.length + 1):Int) - (1:Int))∧(IntKind.i64.wrap ((↑(l.length + 1):Int) - (1:Int))).toNat≤l.length + 1 - 0)) (.leaf (.tup
  (Wo cs k)) ((QHr C ac body cs f has k l many moved n turned x))))) (.need (pb2 ((QIV C ac body cs f has has2 k l l2 many moved n turned x))) (.need (isI IntKind.i64 (.int false
  .i64 (QI l2 (cs.getD k (QA.mk (0:Int) (0:Int))).cell))) (.need (decide ((0:Int)≤IntKind.i64.wrap ((↑l2.length:Int) - (1:Int))∧(IntKind.i64.wrap ((↑l2.length:Int)
  - (1:Int))).toNat≤l2.length - 0)) (.br (false) (.leaf (.tup [.nili,.ptr 98 0 0,.bool true false]) ([(296,.cells 0 38 [.slz 704 0 (IntKind.i64.wrap ((↑l2.length:Int) - (1 :
  Int))).toNat (Cap.of 0)]),(GB cs has' k l2),(Y7 ac body),(HZ many'),(GN n'),(120,.cells 0 38 [.slz 705 0 f'.length (Cap.of 0)]),(GO moved'),(zp turned'),
  (704,.rowz true 56 [.int .i64,.int .i64] l2.length fun i=>QB.enc (l2.getD i (QA.mk (0:Int) (0:Int)))),(ZA C x),Y1,YX,(705,.rowz true 56 [.int .i64,.int
  .i64] f'.length fun i=>QB.enc (f'.getD i (QA.mk (0:Int) (0:Int)))),(0,.frz Jq x.d.ps.n fun i=>QB.enc (x.d.ps.get i)),(1,.frz Jq x.scans.n fun i=>QB.enc
  (x.scans.get i)),(Yj x),(X6 C)])) (.leaf (.tup (Wo cs k)) ((QGt C ac body cs f' has' k l2 many' moved' n' turned' x))))))))))))) (.need (isI IntKind.i64 (.int false .i64
  (QI l (cs.getD k (QA.mk (0:Int) (0:Int))).cell))) (.br (decide (toI (.int false .i64 (QI l (cs.getD k (QA.mk (0:Int) (0:Int))).cell))≥(1:Int))) (.leaf (.tup
  (Wo cs k)) ((QCA C ac body cs f has l many moved n turned x))) (.need (decide (l.length≤l.length)&&(true&&decide ((l.length + 1 + (l.length + 1) / 4 + 192) * 16 ≤
  281474976710656∧l.length + 1≤9223372036854775807))) (.need (isI IntKind.i64 (.int false .i64 (QI l (cs.getD k (QA.mk (0:Int) (0:Int))).cell))) (.need (pb1 ((QGT C cs k
  l l2 x))) (.br (!Kk x l2) (.need (isI IntKind.i64 (Bool.rec ((fun _=>(fun i => .int false .i64 (QI l i)) ((fun i=>QB.enc (cs.getD i (QA.mk (0:Int) (0:Int)))) ((↑k :
  Int).toNat + 0) 0)) ()) ((fun _ => .int false .i64 (IntKind.i64.wrap (toI ((fun i => .int false .i64 (QI l i)) ((fun i=>QB.enc (cs.getD i (QA.mk (0:Int) (0:Int)))) ((↑k
  : Int).toNat + 0) 0)) + (1:Int)))) ()) (decide ((fun i=>QB.enc (cs.getD i (QA.mk (0:Int) (0:Int)))) ((↑k:Int).toNat + 0) 0=(fun i=>QB.enc (cs.getD i (QA.mk (0
  : Int) (0:Int)))) ((↑k:Int).toNat + 0) 0)))) (.need (decide ((0:Int)≤IntKind.i64.wrap ((↑(l.length + 1):Int) - (1:Int))∧(IntKind.i64.wrap ((↑(l.length + 1):Int) - (1
  : Int))).toNat≤l.length + 1 - 0)) (.leaf (.tup (Wo cs k)) ((QJ9 C ac body cs f has k l many moved n turned x))))) (.need (pb2 ((QIV C ac body cs f has has2 k l l2 many moved
  n turned x))) (.need (isI IntKind.i64 (.int false .i64 (QI l2 (cs.getD k (QA.mk (0:Int) (0:Int))).cell))) (.need (decide ((0:Int)≤IntKind.i64.wrap ((↑l2.length:Int) -
  (1:Int))∧(IntKind.i64.wrap ((↑l2.length:Int) - (1:Int))).toNat≤l2.length - 0)) (.br (false) (.leaf (.tup [.nili,.ptr 98 0 0,.bool true false]) ([(296,.cells 0 38 [.slz
  656 0 (IntKind.i64.wrap ((↑l2.length:Int) - (1:Int))).toNat (Cap.of 0)]),(GB cs has' k l2),(Y7 ac body),(HZ many'),(GN n'),(120,.cells 0 38 [.slz 657 0
  f'.length (Cap.of 0)]),(GO moved'),(zp turned'),(656,.rowz true 56 [.int .i64,.int .i64] l2.length fun i=>QB.enc (l2.getD i (QA.mk (0:Int) (0:Int)))),(ZA C
  x),Y1,YX,(657,.rowz true 56 [.int .i64,.int .i64] f'.length fun i=>QB.enc (f'.getD i (QA.mk (0:Int) (0:Int)))),(0,.frz Jq x.d.ps.n fun i=>QB.enc
  (x.d.ps.get i)),(1,.frz Jq x.scans.n fun i=>QB.enc (x.scans.get i)),(Yj x),(X6 C)])) (.leaf (.tup (Wo cs k)) ((QDW C ac body cs f' has' k l2 many' moved' n'
  turned' x)))))))))))))))) (.leaf (.tup [.ptr 0 0 0,.ptr 98 0 0]) ((QGj C ac body f has l many moved n turned x))):=by kernel_rfl
noncomputable abbrev vK (cs:List QA) (k:Nat):List AV:=
  [.ptr 296 0 0,.ptr 224 0 0,.ptr 280 0 0,.ptr 264 0 0,.ptr 304 0 0,.slz 384 0 cs.length (Cap.of 0),.int false .i64 (↑cs.length:Int),.int false .i64 (IntKind.i64.wrap ((↑k :
  Int) + (1:Int)))]
theorem QDy (x:QE) (C:List (List QA)) (ac body:Code) (cs l:List QA) (has:Int→Bool) (many n:Int) (f:List QA) (moved turned:Int) (k k':Nat) :QO 360 (vK cs k) ((QCA C ac body cs f has l many moved n turned x)) (tdJ x C ac body cs l has many n f moved turned k')=( some [0=0,0=0,0=0,0=0,0=0,0=0,0 =
  0,0=0,0=0,0=0,0=0,cs.length=cs.length,Cap.of 0=Cap.of 0,(↑cs.length:Int)=(↑cs.length:Int),IntKind.i64.wrap ((↑k:Int) + (1:Int))=(↑k':Int),
  cs.length≤cs.length,QD 2 cs.length (fun i=>QB.enc (cs.getD i (QA.mk (0:Int) (0:Int)))) fun i=>QB.enc (cs.getD i (QA.mk (0:Int) (0:Int))),0=0,l.length
  = l.length,Cap.of 0=Cap.of 0,l.length≤l.length,QD 2 l.length (fun i=>QB.enc (l.getD i (QA.mk (0:Int) (0:Int)))) fun i=>QB.enc (l.getD i (QA.mk (0:Int)
  (0:Int))),Kn (.int true .i64 (0:Int)) (.int true .i64 (0:Int)) has has (fun i => .int false .i64 (QI l i)) fun i => .int false .i64 (QI l i),LoopState.ready =
  LoopState.ready,(none:Option Code)=none,Array.mk [12]=Array.mk [(12:Tmp)],ac=ac,body=body,0=0,0=0,(0:Int)=(0:Int),Fn.func (62:FuncId)=Fn.func (62 :
  FuncId),0=0,0=0,0=0,0=0,0=0,0=0,0=0,0=0,0=0,0=0,(0:Int)=(0:Int),false=false,0=0,0=0,0=0,0=0,Fn.func (76:FuncId)=Fn.func (76
  : FuncId),0=0,0=0,many=many,n=n,0=0,f.length=f.length,Cap.of 0=Cap.of 0,f.length≤f.length,QD 2 f.length (fun i=>QB.enc (f.getD i (QA.mk (0:Int)
  (0:Int)))) fun i=>QB.enc (f.getD i (QA.mk (0:Int) (0:Int))),moved=moved,turned=turned,Fn.func 77=Fn.func (77:FuncId),0=0,0=0,0=0,0=0,0=0,0 =
  0,0=0,0=0,0=0,0=0,0=0,0=0,Fn.func 62=Fn.func (62:FuncId),0=0,0=0,0=0,0=0,0=0,0=0,x.d.play.length=x.d.play.length,x.d.play.slack =
  x.d.play.slack,x.d.play.loose=x.d.play.loose,x.d.play.damp.lo=x.d.play.damp.lo,x.d.play.damp.hi=x.d.play.damp.hi,x.d.wide=x.d.wide,x.d.high=x.d.high,x.d.turn =
  x.d.turn,0=0,x.d.ps.n=x.d.ps.n,Cap.of 0=Cap.of 0,0=0,x.scans.n=x.scans.n,Cap.of 0=Cap.of 0,0=0,x.hang.n=x.hang.n,Cap.of 0=Cap.of 0,x.lost=x.lost,
  x.foreign=x.foreign,0=0,C.length=C.length,Cap.of 0=Cap.of 0,C.length=C.length,Kd 2 C.length (fun i=>(QJ C i).length) (fun i=>(QJ C i).length) (fun i j=>
  QB.enc ((QJ C i).getD j (QA.mk (0:Int) (0:Int)))) fun i j=>QB.enc ((QJ C i).getD j (QA.mk (0:Int) (0:Int))),x.d.ps.n≤x.d.ps.n,QD 28 x.d.ps.n (fun i=>
  QB.enc (x.d.ps.get i)) fun i=>QB.enc (x.d.ps.get i),x.scans.n≤x.scans.n,QD 28 x.scans.n (fun i=>QB.enc (x.scans.get i)) fun i=>QB.enc (x.scans.get i),x.hang.n
  ≤ x.hang.n,QD 4 x.hang.n (fun i=>QB.enc (x.hang.get i)) fun i=>QB.enc (x.hang.get i)]):=by kernel_rfl
noncomputable abbrev QJh (C:List (List QA)) (ac:Code) (body:Code) (cs:List QA) (f:List QA) (h':Int→Bool) (has:Int→Bool) (k:Nat) (k':Nat) (l:List QA) (many:Int) (moved:Int) (n:Int) (turned:Int) (x:QE):List Prop:=
  [0=0,0=0,0=0,0=0,0=0,0=0,0=0,0=0,0=0,0=0,0=0,cs.length=cs.length,Cap.of 0=Cap.of 0,(↑cs.length:Int)=(↑cs.length:Int),IntKind.i64.wrap
  ((↑k:Int) + (1:Int))=(↑k':Int),cs.length≤cs.length,QD 2 cs.length (fun i=>QB.enc (cs.getD i (QA.mk (0:Int) (0:Int)))) fun i=>QB.enc (cs.getD i (QA.mk
  (0:Int) (0:Int))),0=0,(IntKind.i64.wrap ((↑(l.length + 1):Int) - (1:Int))).toNat=l.length,Cap.of 0=Cap.of 0,l.length≤l.length + 1,QD 2 l.length (Q1
  l.length (fun i=>QB.enc (l.getD i (QA.mk (0:Int) (0:Int)))) (Qb [(vV cs k)] 0)) fun i=>QB.enc (l.getD i (QA.mk (0:Int) (0:Int))),Kn (.int true .i64 (0 :
  Int)) (.int true .i64 (0:Int)) (Qh (cs.getD k (QA.mk (0:Int) (0:Int))).cell true (Qh (cs.getD k (QA.mk (0:Int) (0:Int))).cell true has)) h' (KI (cs.getD k
  (QA.mk (0:Int) (0:Int))).cell (.int false .i64 (IntKind.i64.wrap (toI (Bool.rec ((fun x=>(fun i => .int false .i64 (QI l i)) ((fun i=>QB.enc (cs.getD i (QA.mk (0 :
  Int) (0:Int)))) ((↑k:Int).toNat + 0) 0)) ()) ((fun x => .int false .i64 (IntKind.i64.wrap (toI ((fun i => .int false .i64 (QI l i)) ((fun i=>QB.enc (cs.getD i (QA.mk (0
  : Int) (0:Int)))) ((↑k:Int).toNat + 0) 0)) + (1:Int)))) ()) (decide ((fun i=>QB.enc (cs.getD i (QA.mk (0:Int) (0:Int)))) ((↑k:Int).toNat + 0) 0=(fun i=>
  QB.enc (cs.getD i (QA.mk (0:Int) (0:Int)))) ((↑k:Int).toNat + 0) 0))) - (1:Int)))) (KI (cs.getD k (QA.mk (0:Int) (0:Int))).cell (.int false .i64
  (IntKind.i64.wrap (toI (.int false .i64 (QI l (cs.getD k (QA.mk (0:Int) (0:Int))).cell)) + (1:Int)))) fun i => .int false .i64 (QI l i))) fun i => .int false .i64 (QI
  l i),LoopState.ready=LoopState.ready,(none:Option Code)=none,Array.mk [12]=Array.mk [(12:Tmp)],ac=ac,body=body,0=0,0=0,(0:Int)=(0:Int),Fn.func (62 :
  FuncId)=Fn.func (62:FuncId),0=0,0=0,0=0,0=0,0=0,0=0,0=0,0=0,0=0,0=0,(0:Int)=(0:Int),false=false,0=0,0=0,0=0,0=0,Fn.func (76
  : FuncId)=Fn.func (76:FuncId),0=0,0=0,many=many,n=n,0=0,f.length=f.length,Cap.of 0=Cap.of 0,f.length≤f.length,QD 2 f.length (fun i=>QB.enc
  (f.getD i (QA.mk (0:Int) (0:Int)))) fun i=>QB.enc (f.getD i (QA.mk (0:Int) (0:Int))),moved=moved,turned=turned,Fn.func 77=Fn.func (77:FuncId),0=0,0 =
  0,0=0,0=0,0=0,0=0,0=0,0=0,0=0,0=0,0=0,0=0,Fn.func 62=Fn.func (62:FuncId),0=0,0=0,0=0,0=0,0=0,0=0,x.d.play.length =
  x.d.play.length,x.d.play.slack=x.d.play.slack,x.d.play.loose=x.d.play.loose,x.d.play.damp.lo=x.d.play.damp.lo,x.d.play.damp.hi=x.d.play.damp.hi,x.d.wide=x.d.wide,
  x.d.high=x.d.high,x.d.turn=x.d.turn,0=0,x.d.ps.n=x.d.ps.n,Cap.of 0=Cap.of 0,0=0,x.scans.n=x.scans.n,Cap.of 0=Cap.of 0,0=0,x.hang.n=x.hang.n,Cap.of 0 =
  Cap.of 0,x.lost=x.lost,x.foreign=x.foreign,0=0,C.length=C.length,Cap.of 0=Cap.of 0,C.length=C.length,Kd 2 C.length (fun i=>(QJ C i).length) (fun i=>
  (QJ C i).length) (fun i j=>QB.enc ((QJ C i).getD j (QA.mk (0:Int) (0:Int)))) fun i j=>QB.enc ((QJ C i).getD j (QA.mk (0:Int) (0:Int))),x.d.ps.n ≤
  x.d.ps.n,QD 28 x.d.ps.n (fun i=>QB.enc (x.d.ps.get i)) fun i=>QB.enc (x.d.ps.get i),x.scans.n≤x.scans.n,QD 28 x.scans.n (fun i=>QB.enc (x.scans.get i)) fun
  i=>QB.enc (x.scans.get i),x.hang.n≤x.hang.n,QD 4 x.hang.n (fun i=>QB.enc (x.hang.get i)) fun i=>QB.enc (x.hang.get i)]
theorem QT5 (x:QE) (C:List (List QA)) (ac body:Code) (cs l:List QA) (has h':Int→Bool) (many n:Int) (f:List QA) (moved turned:Int) (k k':Nat) :QO 360 (vK cs k) ((QHr C ac body cs f has k l many moved n turned x)) (tdJ x C ac body cs l h' many n f moved turned k')=( some (QJh C ac body cs f h' has k k' l many moved
  n turned x)):=by kernel_rfl
theorem QRQ (x:QE) (C:List (List QA)) (ac body:Code) (cs l:List QA) (has h':Int→Bool) (many n:Int) (f:List QA) (moved turned:Int) (k k':Nat) :QO 360 (vK cs k) ((QJ9 C ac body cs f has k l many moved n turned x)) (tdJ x C ac body cs l h' many n f moved turned k')=( some (QJh C ac body cs f h' has k k' l many
  moved n turned x)):=by kernel_rfl
noncomputable abbrev QJU (C:List (List QA)) (ac:Code) (body:Code) (cs:List QA) (f':List QA) (h':Int→Bool) (has':Int→Bool) (k:Nat) (k':Nat) (l:List QA) (l2:List QA) (many':Int) (moved':Int) (n':Int) (turned':Int) (x:QE):List Prop:=
  [0=0,0=0,0=0,0=0,0=0,0=0,0=0,0=0,0=0,0=0,0=0,cs.length=cs.length,Cap.of 0=Cap.of 0,(↑cs.length:Int)=(↑cs.length:Int),IntKind.i64.wrap
  ((↑k:Int) + (1:Int))=(↑k':Int),cs.length≤cs.length,QD 2 cs.length (fun i=>QB.enc (cs.getD i (QA.mk (0:Int) (0:Int)))) fun i=>QB.enc (cs.getD i (QA.mk
  (0:Int) (0:Int))),0=0,(IntKind.i64.wrap ((↑l2.length:Int) - (1:Int))).toNat=l.length,Cap.of 0=Cap.of 0,l.length≤l2.length,QD 2 l.length (fun i=>QB.enc
  (l2.getD i (QA.mk (0:Int) (0:Int)))) fun i=>QB.enc (l.getD i (QA.mk (0:Int) (0:Int))),Kn (.int true .i64 (0:Int)) (.int true .i64 (0:Int)) (Qh (cs.getD k
  (QA.mk (0:Int) (0:Int))).cell true has') h' (KI (cs.getD k (QA.mk (0:Int) (0:Int))).cell (.int false .i64 (IntKind.i64.wrap (toI (.int false .i64 (QI l2 (cs.getD k
  (QA.mk (0:Int) (0:Int))).cell)) - (1:Int)))) fun i => .int false .i64 (QI l2 i)) fun i => .int false .i64 (QI l i),LoopState.ready=LoopState.ready,(none:Option
  Code)=none,Array.mk [12]=Array.mk [(12:Tmp)],ac=ac,body=body,0=0,0=0,(0:Int)=(0:Int),Fn.func (62:FuncId)=Fn.func (62:FuncId),0=0,0=0,0=0,0
  = 0,0=0,0=0,0=0,0=0,0=0,0=0,(0:Int)=(0:Int),false=false,0=0,0=0,0=0,0=0,Fn.func (76:FuncId)=Fn.func (76:FuncId),0=0,0=0,many' =
  many',n'=n',0=0,f'.length=f'.length,Cap.of 0=Cap.of 0,f'.length≤f'.length,QD 2 f'.length (fun i=>QB.enc (f'.getD i (QA.mk (0:Int) (0:Int)))) fun i=>
  QB.enc (f'.getD i (QA.mk (0:Int) (0:Int))),moved'=moved',turned'=turned',Fn.func 77=Fn.func (77:FuncId),0=0,0=0,0=0,0=0,0=0,0=0,0=0,0=0,0
  = 0,0=0,0=0,0=0,Fn.func 62=Fn.func (62:FuncId),0=0,0=0,0=0,0=0,0=0,0=0,x.d.play.length=x.d.play.length,x.d.play.slack=x.d.play.slack,
  x.d.play.loose=x.d.play.loose,x.d.play.damp.lo=x.d.play.damp.lo,x.d.play.damp.hi=x.d.play.damp.hi,x.d.wide=x.d.wide,x.d.high=x.d.high,x.d.turn=x.d.turn,0=0,
  x.d.ps.n=x.d.ps.n,Cap.of 0=Cap.of 0,0=0,x.scans.n=x.scans.n,Cap.of 0=Cap.of 0,0=0,x.hang.n=x.hang.n,Cap.of 0=Cap.of 0,x.lost=x.lost,x.foreign=x.foreign,
  0=0,C.length=C.length,Cap.of 0=Cap.of 0,C.length=C.length,Kd 2 C.length (fun i=>(QJ C i).length) (fun i=>(QJ C i).length) (fun i j=>QB.enc ((QJ C
  i).getD j (QA.mk (0:Int) (0:Int)))) fun i j=>QB.enc ((QJ C i).getD j (QA.mk (0:Int) (0:Int))),x.d.ps.n≤x.d.ps.n,QD 28 x.d.ps.n (fun i=>QB.enc
  (x.d.ps.get i)) fun i=>QB.enc (x.d.ps.get i),x.scans.n≤x.scans.n,QD 28 x.scans.n (fun i=>QB.enc (x.scans.get i)) fun i=>QB.enc (x.scans.get i),x.hang.n ≤
  x.hang.n,QD 4 x.hang.n (fun i=>QB.enc (x.hang.get i)) fun i=>QB.enc (x.hang.get i)]
theorem QNK (x:QE) (C:List (List QA)) (ac body:Code) (cs l l2:List QA) (k:Nat) (has' h':Int→Bool) (many' n':Int) (f':List QA) (moved' turned':Int) (k':Nat) :QO 360 (vK cs k) ((QGt C ac body cs f' has' k l2 many' moved' n' turned' x)) (tdJ x C ac body cs l h' many' n' f' moved' turned' k')=( some (QJU C ac body cs f' h' has' k
  k' l l2 many' moved' n' turned' x)):=by kernel_rfl
theorem QS6 (x:QE) (C:List (List QA)) (ac body:Code) (cs l l2:List QA) (k:Nat) (has' h':Int→Bool) (many' n':Int) (f':List QA) (moved' turned':Int) (k':Nat) :QO 360 (vK cs k) ((QDW C ac body cs f' has' k l2 many' moved' n' turned' x)) (tdJ x C ac body cs l h' many' n' f' moved' turned' k')=( some (QJU C ac body cs f' h' has' k
  k' l l2 many' moved' n' turned' x)):=by kernel_rfl
theorem QTV (x:QE) (C:List (List QA)) (ac body:Code) (l:List QA) (has:Int→Bool) (many n:Int) (f:List QA) (moved turned:Int) :QO 360 [] ((QGj C ac body f has l many moved n turned x)) (tdE ac body l has many n f moved turned)=( some [0=0,l.length=l.length,Cap.of 0=Cap.of 0,l.length ≤
  l.length,QD 2 l.length (fun i=>QB.enc (l.getD i (QA.mk (0:Int) (0:Int)))) fun i=>QB.enc (l.getD i (QA.mk (0:Int) (0:Int))),Kn (.int true .i64 (0:Int))
  (.int true .i64 (0:Int)) has has (fun i => .int false .i64 (QI l i)) fun i => .int false .i64 (QI l i),LoopState.ready=LoopState.ready,(none:Option Code)=none,
  Array.mk [12]=Array.mk [(12:Tmp)],ac=ac,body=body,0=0,0=0,(0:Int)=(0:Int),Fn.func (62:FuncId)=Fn.func (62:FuncId),0=0,0=0,0=0,0=0,0=0,0
  = 0,0=0,0=0,0=0,0=0,(0:Int)=(0:Int),false=false,0=0,0=0,0=0,0=0,Fn.func (76:FuncId)=Fn.func (76:FuncId),0=0,0=0,many=many,n=n,0
  = 0,f.length=f.length,Cap.of 0=Cap.of 0,f.length≤f.length,QD 2 f.length (fun i=>QB.enc (f.getD i (QA.mk (0:Int) (0:Int)))) fun i=>QB.enc (f.getD i
  (QA.mk (0:Int) (0:Int))),moved=moved,turned=turned]):=by kernel_rfl
end Go.Proofs.Ytbpffdkemeoajaa
