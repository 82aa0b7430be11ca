/- - -/
import Derived.Test.YtbpffdkemeoajaaMfzi
set_option maxRecDepth 100000
namespace Go.Proofs.Ytbpffdkemeoajaa
open Go.SX
theorem QW4{x:QE}{l:Rw QB}{k:Nat}(hn:x.d.ps.n≤1000)(h:Je x l k=false):((l.get k).cell = -2∧(l.get k).turn=0)∨((0≤(l.get k).cell∧(l.get k).cell<x.d.ps.n)∧(0≤(l.get k).turn∧(l.get k).turn≤3)∧JX x.d (x.scans.get k) (l.get k).cell.toNat (l.get k).turn.toNat=true∧eqN l k=true):=by
 have hw:IntKind.i64.wrap ((x.d.ps.n:Int)-1)=(x.d.ps.n:Int)-1:=w64 (by omega) (by omega)
 unfold Je at h;cases e:(l.get k).cell == -2 with
 | true=>
  rw[e,cond_true]at h;exact .inl ⟨by simpa using e,by simpa using h⟩
 | false=>
  rw[e,cond_false,hw]at h;simp only[Bool.or_eq_false_iff,Bool.not_eq_false',QW,qbA,qdE]at h;refine .inr ⟨⟨h.1.1.1.1,by omega⟩,h.1.1.2,h.1.2,h.2⟩
theorem QKV{p:Nat→Bool}{n:Nat}(h:(QM p n 0).isNone=true):∀ k,k<n→p k=false:=fun k hk=>ze (Option.isNone_iff_eq_none.1 h) k (Nat.zero_le _) (by omega)
theorem QDf{p:Nat→Bool}{n:Nat}(h:∀ k,k<n→p k=false):(QM p n 0).isNone=true:=Option.isNone_iff_eq_none.2 (QGg fun k _ hk=>h k (by omega))
def QIM(x:QE)(l:Rw QB)(al tk:Int)(k:Nat)(e:Ex)(J:JSt):Prop:=(e = .ret∧(QM (YT x l) (x.hang.n-k) k).isNone=false∧J=V6)∨(e = .exit 4∧(QM (YT x l) (x.hang.n-k) k).isNone=true∧J=rtE x l al tk)
set_option maxHeartbeats 1600000 in
theorem QXp(x:QE)(l:Rw QB)(al tk:Int)(hx:JL x)(hs:l.n=x.scans.n)(hg:(QM (Je x l) l.n 0).isNone=true):JJ (GP x l al tk) (fun k=>k≤x.hang.n) (fun k=>x.hang.n-k) (QIM x l al tk) 8 QKU [] (mkE Try.prog Jb) (fun _=>hnd (mkE Try.prog Jb) 3) (QX Try.f36 1):=by
 refine⟨fun k g hk=>Q2 (QX1 x l al tk k g) ?_⟩;have n9:=hx.d.n9;have n12:=hx.n;have hd:=hx.d;have hw:=hd.w1;have hwn:=hd.wn;have hh:=hd.h1;have hhn:=hd.hn;have gt:∀ i,i<l.n→_:=fun i hi=>QW4 (k:=i) (by omega) (QKV hg i hi)
 refine QG (fun b0 => ?_) (fun b0 => ?_)
 ·refine QF (by simp at b0 ⊢;omega) ?_
  refine QF (by simp at b0 ⊢;omega) ?_
  refine QF ?_ ?_
  ·have h:k<x.hang.n:=by have:=qdt b0;omega
   have j:=hx.j k h;simp;omega
  refine QF ?_ ?_
  ·have h:k<x.hang.n:=by have:=qdt b0;omega
   have j:=hx.j k h;simp;omega
  refine QF ?_ ?_
  ·have h:k<x.hang.n:=by have:=qdt b0;omega
   have j:=hx.j k h;simp;omega
  refine QF ?_ ?_
  ·have h:k<x.hang.n:=by have:=qdt b0;omega
   have j:=hx.j k h;simp;omega
  refine QF ?_ ?_
  ·have h:k<x.hang.n:=by have:=qdt b0;omega
   obtain⟨⟨j1,j2⟩,ja,jb⟩:=hx.j k h;have ga:=gt (x.hang.get k).a.toNat (by omega)
   have gb:=gt (x.hang.get k).b.toNat (by omega)
   exact Bool.and_eq_true_iff.2 ⟨by simp,decide_eq_true ⟨⟨⟨by omega,by omega⟩,by omega,by omega⟩,⟨by omega,by omega⟩,⟨j1,j2⟩,⟨by omega,by omega⟩,by omega⟩⟩
  refine QG (fun b1 => ?_) (fun b1 => ?_)
  ·have h:k<x.hang.n:=by have:=qdt b0;omega
   exact⟨_,.inl ⟨rfl,qW h b1,rfl⟩,rfl,rfl,_,QV6,⟨rfl,trivial⟩⟩
  ·have h:k<x.hang.n:=by have:=qdt b0;omega
   refine⟨k+1,h,by show x.hang.n-(k+1)<x.hang.n-k;omega,fun e J r=>by unfold QIM at r ⊢;rw[jT h b1];exact r,rfl,rfl,_,QQy ..,?_⟩
   repeat' first|with_reducible refine QQ ?_ ?_|exact trivial|with_reducible rfl|exact qlr _|exact qRr|exact Kn h (by omega)|refine And.intro ?_ ?_
 ·have h:x.hang.n≤k:=by have:=of_decide_eq_false b0;omega
  refine⟨_,.inr ⟨rfl,zZ h,rfl⟩,rfl,rfl,_,QV7 ..,?_⟩
  repeat' first|with_reducible refine QQ ?_ ?_|exact trivial|with_reducible rfl|exact qlr _|exact qRr|refine And.intro ?_ ?_
def KH(x:QE)(l:Rw QB):Bool:=((l.n:Int)==x.scans.n)&&((QM (Je x l) l.n 0).isNone&&((QM (YT x l) x.hang.n 0).isNone&&(decide (alN l l.n≤x.foreign)&&decide (IntKind.i64.wrap ((x.d.ps.n:Int)-tkN l l.n)≤x.lost))))
abbrev rtL(x:QE)(l:Rw QB):Code→St→(Ex→St→QD)→QD:=QBw [
 (5,XG (x.d.ps.n≤1000∧l.n=x.scans.n∧l.n≤1000) (KD 8 [] (rtJ x l 0 0 (0:Nat)) [((QM (Je x l) l.n 0).isNone=false,.ret,V6),((QM (Je x l) l.n 0).isNone=true,.exit 0,rtE x l (alN l l.n) (tkN l l.n))])),
 (20,XG (x.ok=true∧l.n=x.scans.n∧(QM (Je x l) l.n 0).isNone=true) (KD 8 [] (GP x l (alN l l.n) (tkN l l.n) (0:Nat)) [((QM (YT x l) x.hang.n 0).isNone=false,.ret,V6),((QM (YT x l) x.hang.n 0).isNone=true,.exit 4,rtE x l (alN l l.n) (tkN l l.n))]))]
abbrev rtH(P:Program)(x:QE)(l:Rw QB):Hnd:={ hnd (mkS P Jb) 1 with loop:=rtL x l }
theorem QVQ(x:QE)(l:Rw QB)(G:Ctx)(hrd:G.rd=none)(hG:G.n=8):KC (mkS Try.prog Jb) G (rtH Try.prog x l) (Qs Try.f36):=by
 refine QA6 (Jt Zh) hrd fun c hc => ?_;have he:Km (Qs Try.f36)=[.loop (QX Try.f36 0),.loop (QX Try.f36 1)]:=by kernel_rfl
 rw[he]at hc;simp only[List.mem_cons,List.not_mem_nil,or_false]at hc;rcases hc with rfl|rfl
 ·have e1:rtL x l (.loop (QX Try.f36 0))=XG (x.d.ps.n≤1000∧l.n=x.scans.n∧l.n≤1000) (KD 8 [] (rtJ x l 0 0 (0:Nat)) [((QM (Je x l) l.n 0).isNone=false,.ret,V6),((QM (Je x l) l.n 0).isNone=true,.exit 0,rtE x l (alN l l.n) (tkN l l.n))]):=by kernel_rfl
  rw[e1];refine qV fun hp => ?_;refine JW (n0:=8) (Jt Zh) (by omega) (fun k hk=>QR3 x l (alN l k) (IntKind.i64.wrap (tkN l k+1)) k hp.2.2 G hrd hG) (fun s hs=>(by decide:8≤96)) ?_ (QRS x l hp.1 hp.2.1 hp.2.2) (s0:=0) (Nat.zero_le _) ?_
  ·rintro s e J (⟨_,_,rfl⟩|⟨_,_,rfl⟩)<;>exact(by decide:8≤96)
  ·rintro e J (⟨rfl,h,rfl⟩|⟨rfl,h,rfl⟩)
   ·exact⟨_,List.mem_cons_self,h,rfl,rfl⟩
   ·exact⟨_,List.mem_cons_of_mem _ List.mem_cons_self,h,rfl,rfl⟩
 ·have e1:rtL x l (.loop (QX Try.f36 1))=XG (x.ok=true∧l.n=x.scans.n∧(QM (Je x l) l.n 0).isNone=true) (KD 8 [] (GP x l (alN l l.n) (tkN l l.n) (0:Nat)) [((QM (YT x l) x.hang.n 0).isNone=false,.ret,V6),((QM (YT x l) x.hang.n 0).isNone=true,.exit 4,rtE x l (alN l l.n) (tkN l l.n))]):=by kernel_rfl
  rw[e1];refine qV fun hp => ?_;refine ZG (E:=mkE Try.prog Jb) rfl (JW (n0:=8) (QT Zh) (by omega) (fun s hs=>Qy (QT Zh) 3 G _ hrd) (fun s hs=>(by decide:8≤96)) ?_ (QXp x l (alN l l.n) (tkN l l.n) (JM hp.1) hp.2.1 hp.2.2) (s0:=0) (Nat.zero_le _) ?_)
  ·rintro s e J (⟨_,_,rfl⟩|⟨_,_,rfl⟩)<;>exact(by decide:8≤96)
  ·rintro e J (⟨rfl,h,rfl⟩|⟨rfl,h,rfl⟩)
   ·exact⟨_,List.mem_cons_self,h,rfl,rfl⟩
   ·exact⟨_,List.mem_cons_of_mem _ List.mem_cons_self,h,rfl,rfl⟩
def qf:WF (QE×(Rw QB)×Unit):=fun|(x,(l,_))=>(x.ok,.bool false (KH x l),[])
def QIH:FC:=wFC qf
theorem QVO(x:QE)(l:(Rw QB)):KO (mkS Try.prog Jb) (rtH Try.prog x l) Try.f36 (QV.vals 0 ((x,l,()):QE×(Rw QB)×Unit)) (QV.blks 0 ((x,l,()):QE×(Rw QB)×Unit)) 8 = .br ((l.n :
  Int) != (x.scans.n:Int)) (.leaf (.bool true false) ([])) (.ask (x.d.ps.n≤1000∧l.n=x.scans.n∧l.n≤1000) (.ask (0=0) (.ask (l.n=l.n) (.ask (cO=cO) (.ask
  (0=0) (.ask (0=0) (.ask ((0:Int)=0) (.ask ((0:Int)=0) (.ask ((0:Int)=0) (.ask (x.d.play.length=x.d.play.length) (.ask (x.d.play.slack=x.d.play.slack) (.ask
  (x.d.play.loose=x.d.play.loose) (.ask (x.d.play.damp.lo=x.d.play.damp.lo) (.ask (x.d.play.damp.hi=x.d.play.damp.hi) (.ask (x.d.wide=x.d.wide) (.ask (x.d.high=x.d.high)
  (.ask (x.d.turn=x.d.turn) (.ask (0=0) (.ask (x.d.ps.n=x.d.ps.n) (.ask (cO=cO) (.ask (0=0) (.ask (x.scans.n=x.scans.n) (.ask (cO=cO) (.ask (0 =
  0) (.ask (x.hang.n=x.hang.n) (.ask (cO=cO) (.ask (x.lost=x.lost) (.ask (x.foreign=x.foreign) (.ask (x.d.ps.n≤x.d.ps.n) (.ask (QC 28 x.d.ps.n (fun i=>
  QA.enc (x.d.ps.get i)) fun i=>QA.enc (x.d.ps.get i)) (.ask (x.scans.n≤x.scans.n) (.ask (QC 28 x.scans.n (fun i=>QA.enc (x.scans.get i)) fun i=>QA.enc
  (x.scans.get i)) (.ask (x.hang.n≤x.hang.n) (.ask (QC 4 x.hang.n (fun i=>QA.enc (x.hang.get i)) fun i=>QA.enc (x.hang.get i)) (.ask (l.n≤l.n) (.ask (QC 2 l.n (fun
  i=>QA.enc (l.get i)) fun i=>QA.enc (l.get i)) (.both (.asm ((QM (Je x l) l.n 0).isNone=false) (.all (fun(g0:Nat→Value) => .leaf (.bool false false) ([]))))
  (.asm ((QM (Je x l) l.n 0).isNone=true) (.all (fun(g1:Nat→Value) => .ask (x.ok=true∧l.n=x.scans.n∧(QM (Je x l) l.n 0).isNone=true) (.ask (0=0) (.ask
  (l.n=l.n) (.ask (cO=cO) (.ask (0=0) (.ask (0=0) (.ask (alN l l.n=alN l l.n) (.ask (tkN l l.n=tkN l l.n) (.ask ((0:Int)=0) (.ask (x.d.play.length =
  x.d.play.length) (.ask (x.d.play.slack=x.d.play.slack) (.ask (x.d.play.loose=x.d.play.loose) (.ask (x.d.play.damp.lo=x.d.play.damp.lo) (.ask (x.d.play.damp.hi =
  x.d.play.damp.hi) (.ask (x.d.wide=x.d.wide) (.ask (x.d.high=x.d.high) (.ask (x.d.turn=x.d.turn) (.ask (0=0) (.ask (x.d.ps.n=x.d.ps.n) (.ask (cO=cO) (.ask (0
  = 0) (.ask (x.scans.n=x.scans.n) (.ask (cO=cO) (.ask (0=0) (.ask (x.hang.n=x.hang.n) (.ask (cO=cO) (.ask (x.lost=x.lost) (.ask (x.foreign =
  x.foreign) (.ask (x.d.ps.n≤x.d.ps.n) (.ask (QC 28 x.d.ps.n (fun i=>QA.enc (x.d.ps.get i)) fun i=>QA.enc (x.d.ps.get i)) (.ask (x.scans.n≤x.scans.n) (.ask (QC 28
  x.scans.n (fun i=>QA.enc (x.scans.get i)) fun i=>QA.enc (x.scans.get i)) (.ask (x.hang.n≤x.hang.n) (.ask (QC 4 x.hang.n (fun i=>QA.enc (x.hang.get i)) fun i=>
  QA.enc (x.hang.get i)) (.ask (l.n≤l.n) (.ask (QC 2 l.n (fun i=>QA.enc (l.get i)) fun i=>QA.enc (l.get i)) (.both (.asm ((QM (YT x l) x.hang.n 0).isNone =
  false) (.all (fun(g2:Nat→Value) => .leaf (.bool false false) ([])))) (.asm ((QM (YT x l) x.hang.n 0).isNone=true) (.all (fun(g3:Nat→Value) => .need (!decide (alN l
  l.n≤x.foreign)||decide (alN l l.n≤x.foreign)) (.need (!decide (alN l l.n≤x.foreign)||decide (alN l l.n≤x.foreign)) (.need (!decide (alN l l.n≤x.foreign)||decide (alN
  l l.n≤x.foreign)) (.need (!decide (alN l l.n≤x.foreign)||decide (alN l l.n≤x.foreign)&&decide (alN l l.n≤x.foreign)) (.need (!decide (alN l l.n≤x.foreign)||decide
  (alN l l.n≤x.foreign)) (.need (!decide (alN l l.n≤x.foreign)||decide (alN l l.n≤x.foreign)&&decide (alN l l.n≤x.foreign)) (.need (!decide (alN l l.n≤x.foreign) ||
  decide (alN l l.n≤x.foreign)) (.bnd (decide (alN l l.n≤x.foreign)&&decide (IntKind.i64.wrap ((x.d.ps.n:Int)-tkN l l.n)≤x.lost)) (fun(x4:Bool) => .leaf (.bool false
  x4) ([])))))))))))))))))))))))))))))))))))))))))))))))))))))))))))))))))))))))))))))))))))))))):=by kernel_rfl
theorem QYN:JN (mkS Try.prog Jb) (Qs Try.f36) 8 qf (fun x_=>(rtH Try.prog x_.1 x_.2.1)):=by
 refine⟨?_⟩;rintro⟨x,⟨l,⟨⟩⟩⟩ hp G h1 h2;exact QVQ x l G h1 h2
theorem QTP:JS (mkS Try.prog Jb) Try.f36 8 qf (fun x_=>(rtH Try.prog x_.1 x_.2.1)):=by
 refine⟨?_⟩;rintro⟨x,⟨l,⟨⟩⟩⟩ hp;refine⟨⟨rfl,by simp[qf],rfl⟩,⟨?_⟩⟩
 rw[QVO x l];simp only[qf]at hp;have hx:=JM hp;have n9:=hx.d.n9;have n12:=hx.s;have no:∀{z b:Bool},KH x l=b→(QD.leaf (AV.bool z b) []).den (Vg 8 (qf (x,l,())).2.1 (qf (x,l,())).2.2):=fun h=>Kp h.symm rfl;unfold KH at no;refine QG (fun b0 => ?_) (fun b0 => ?_)
 ·refine no ?_;have e:((l.n:Int)==x.scans.n)=false:=by simpa using b0
  rw[e];rfl
 ·refine Qa (by exact⟨by omega,by simp only[bne_eq_false_iff_eq]at b0;omega,by simp only[bne_eq_false_iff_eq]at b0;omega⟩) ?_
  iterate 35 refine Qa (by first|with_reducible rfl|exact qlr _|exact qRr|exact QY _ _ _ _|exact trivial) ?_
  refine Xf ?_ ?_
  ·refine KJ fun a0 => ?_;refine KF fun g0 => ?_;refine no ?_;rw[a0,Bool.false_and,Bool.and_false]
  ·refine KJ fun a1 => ?_;refine KF fun g1 => ?_;refine Qa (by exact⟨hp,by simp only[bne_eq_false_iff_eq]at b0;omega,a1⟩) ?_
   iterate 35 refine Qa (by first|with_reducible rfl|exact qlr _|exact qRr|exact QY _ _ _ _|exact trivial) ?_
   refine Xf ?_ ?_
   ·refine KJ fun a2 => ?_;refine KF fun g2 => ?_;refine no ?_;rw[a2,Bool.false_and,Bool.and_false,Bool.and_false]
   ·refine KJ fun a3 => ?_;refine KF fun g3 => ?_;refine QF (by first|rfl|(cases decide (alN l l.n≤x.foreign)<;>rfl)) ?_
    refine QF (by first|rfl|(cases decide (alN l l.n≤x.foreign)<;>rfl)) ?_
    refine QF (by first|rfl|(cases decide (alN l l.n≤x.foreign)<;>rfl)) ?_
    refine QF (by first|rfl|(cases decide (alN l l.n≤x.foreign)<;>rfl)) ?_
    refine QF (by first|rfl|(cases decide (alN l l.n≤x.foreign)<;>rfl)) ?_
    refine QF (by first|rfl|(cases decide (alN l l.n≤x.foreign)<;>rfl)) ?_
    refine QF (by first|rfl|(cases decide (alN l l.n≤x.foreign)<;>rfl)) ?_
    refine Qz fun z0 y0 => ?_;refine no ?_;have e:((l.n:Int)==x.scans.n)=true:=by simpa using b0
    rw[e,a1,a3,y0];rfl
theorem QTJ:QP Try.prog 36 QIH:=
 Jc (Jt Zh) Try.func36 (by kernel_rfl) (by kernel_rfl) (by decide) QYN QTP
def QNF:Tab:=Qg Jb 36 QIH
theorem QV3:QZ QNF:=Zh.add QTJ
end Go.Proofs.Ytbpffdkemeoajaa
