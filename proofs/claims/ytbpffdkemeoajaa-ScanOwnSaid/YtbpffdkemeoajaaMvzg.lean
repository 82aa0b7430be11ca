/- - -/
import Derived.Test.YtbpffdkemeoajaaMvze
import Derived.Test.YtbpffdkemeoajaaMvzf
import Derived.Test.YtbpffdkemeoajaaMvr
import Derived.Test.YtbpffdkemeoajaaMvp
import Derived.Test.YtbpffdkemeoajaaMvt
set_option maxRecDepth 100000
namespace Go.Proofs.Ytbpffdkemeoajaa
open Go.SX
theorem HA{d:Puz}(h:d.ok=true):d.play.ok=true:=by
 rw[←QAT]at h;simp only[okR,qbA]at h;exact h.1
theorem QIJ{x:QE}(h:x.d.ok=true):Jm x.d.play x.scans=(QP (YW x) x.scans.n 0).isNone:=by
 unfold Jm
 have:Kk ⟨x.d.play⟩ x.scans=YW x:=by
  funext k;simp only[Kk,YW,HA h,Bool.true_and]
 rw[this]
def okQ(x:QE):Bool := !(((((!x.d.ok||decide ((x.scans.n:Int)>12))||decide ((x.hang.n:Int)>12)) || !QY x.lost 0 9) || !QY x.foreign 0 3))&&((QP (YW x) x.scans.n 0).isNone&&(QP (K3 x) x.hang.n 0).isNone)
theorem QSx(x:QE):okQ x=x.ok:=by
 unfold okQ QE.ok QE.sz jxO;cases h:x.d.ok with
 | false=>simp
 | true=>
  rw[QIJ h,QEI]
  by_cases h1:(x.scans.n:Int)>12<;>by_cases h2:(x.hang.n:Int)>12<;>cases QY x.lost 0 9<;>cases QY x.foreign 0 3<;>simp_all<;>omega
def WH:WF (QE×Unit):=fun|(x,_)=>(decide (x.d.ps.n≤1000∧x.scans.n≤1000∧x.hang.n≤1000),.bool false x.ok,[])
def QFm:FC:=wFC WH
theorem QOL(x:QE):Kd (mkS Try.prog VN) (Hb Try.prog x) Try.f35 (QU.vals 0 ((x,()):QE×Unit)) (QU.blks 0 ((x,()):QE×Unit)) 8 = .need (decide (x.d.ps.n≤x.d.ps.n)&&true
  && decide (x.d.ps.n≤1000)) (.need (!!!x.d.ok || !!x.d.ok) (.need (!!!x.d.ok || !!x.d.ok) (.need (!!!x.d.ok || !!x.d.ok) (.need (!x.d.ok || !!x.d.ok) (.bnd (!x.d.ok||decide
  ((x.scans.n:Int)>12)) (fun(x0:Bool) => .need (!!x0 || !x0) (.need (!!x0 || !x0) (.need (!!x0 || !x0) (.need (x0 || !x0) (.bnd (x0||decide ((x.hang.n:Int)>12)) (fun(x1
  : Bool) => .need (!!x1 || !x1) (.need (!!x1||true && !x1) (.need (!!x1 || !x1) (.need (x1 || !x1) (.bnd (x1 || !QY x.lost (0:Int) (9:Int)) (fun(x2:Bool) => .need (!!x2
  || !x2) (.need (!!x2||true && !x2) (.need (!!x2 || !x2) (.need (x2 || !x2) (.bnd (x2 || !QY x.foreign (0:Int) (3:Int)) (fun(x3:Bool) => .br (x3) (.leaf (.bool true
  false) ([])) (.ask (0=0) (.ask (0=0) (.ask ((0:Int)=0) (.ask (x.d.play.length=x.d.play.length) (.ask (x.d.play.slack=x.d.play.slack) (.ask (x.d.play.loose =
  x.d.play.loose) (.ask (x.d.play.damp.lo=x.d.play.damp.lo) (.ask (x.d.play.damp.hi=x.d.play.damp.hi) (.ask (x.d.wide=x.d.wide) (.ask (x.d.high=x.d.high) (.ask (x.d.turn =
  x.d.turn) (.ask (0=0) (.ask (x.d.ps.n=x.d.ps.n) (.ask (cO=cO) (.ask (0=0) (.ask (x.scans.n=x.scans.n) (.ask (cO=cO) (.ask (0=0) (.ask (x.hang.n
  = x.hang.n) (.ask (cO=cO) (.ask (x.lost=x.lost) (.ask (x.foreign=x.foreign) (.ask (x.d.ps.n≤x.d.ps.n) (.ask (QD 28 x.d.ps.n (fun i=>QA.enc (x.d.ps.get
  i)) fun i=>QA.enc (x.d.ps.get i)) (.ask (x.scans.n≤x.scans.n) (.ask (QD 28 x.scans.n (fun i=>QA.enc (x.scans.get i)) fun i=>QA.enc (x.scans.get i)) (.ask (x.hang.n
  ≤ x.hang.n) (.ask (QD 4 x.hang.n (fun i=>QA.enc (x.hang.get i)) fun i=>QA.enc (x.hang.get i)) (.both (.asm ((QP (YW x) x.scans.n 0).isNone=false) (.all (fun(g4
  : Nat→Value) => .leaf (.bool false false) ([])))) (.asm ((QP (YW x) x.scans.n 0).isNone=true) (.all (fun(g5:Nat→Value) => .ask (0=0) (.ask (0=0) (.ask ((0:Int)
  = 0) (.ask (x.d.play.length=x.d.play.length) (.ask (x.d.play.slack=x.d.play.slack) (.ask (x.d.play.loose=x.d.play.loose) (.ask (x.d.play.damp.lo=x.d.play.damp.lo) (.ask
  (x.d.play.damp.hi=x.d.play.damp.hi) (.ask (x.d.wide=x.d.wide) (.ask (x.d.high=x.d.high) (.ask (x.d.turn=x.d.turn) (.ask (0=0) (.ask (x.d.ps.n=x.d.ps.n) (.ask (cO =
  cO) (.ask (0=0) (.ask (x.scans.n=x.scans.n) (.ask (cO=cO) (.ask (0=0) (.ask (x.hang.n=x.hang.n) (.ask (cO=cO) (.ask (x.lost=x.lost) (.ask
  (x.foreign=x.foreign) (.ask (x.d.ps.n≤x.d.ps.n) (.ask (QD 28 x.d.ps.n (fun i=>QA.enc (x.d.ps.get i)) fun i=>QA.enc (x.d.ps.get i)) (.ask (x.scans.n≤x.scans.n)
  (.ask (QD 28 x.scans.n (fun i=>QA.enc (x.scans.get i)) fun i=>QA.enc (x.scans.get i)) (.ask (x.hang.n≤x.hang.n) (.ask (QD 4 x.hang.n (fun i=>QA.enc (x.hang.get
  i)) fun i=>QA.enc (x.hang.get i)) (.both (.asm ((QP (K3 x) x.hang.n 0).isNone=false) (.all (fun(g6:Nat→Value) => .leaf (.bool false false) ([])))) (.asm ((QP
  (K3 x) x.hang.n 0).isNone=true) (.all (fun(g7:Nat→Value) => .leaf (.bool true true) ([]))))))))))))))))))))))))))))))))))))))))))))))))))))))))))))))))))))))))))))))))))))):=by kernel_rfl
theorem QR1:JN (mkS Try.prog VN) (Qr Try.f35) 8 WH (fun x_=>(Hb Try.prog x_.1)):=by
 refine⟨?_⟩;rintro⟨x,⟨⟩⟩ hp G h1 h2;exact QWN x (qdt hp).2.1 (qdt hp).2.2 G h1 h2
theorem QQb:JM (mkS Try.prog VN) Try.f35 8 WH (fun x_=>(Hb Try.prog x_.1)):=by
 refine⟨?_⟩;rintro⟨x,⟨⟩⟩ hp;refine⟨⟨rfl,by simp[WH],rfl⟩,⟨?_⟩⟩
 rw[QOL x];simp only[WH]at hp;obtain⟨hn,_,_⟩:=qdt hp;have end_:∀{z:Bool} {b:Bool},okQ x=b→(QC.leaf (AV.bool z b) []).den (XX 8 (WH (x,())).2.1 (WH (x,())).2.2):=fun{z b} h=>K7 (show b=x.ok by rw[←QSx];exact h.symm) rfl
 refine QF (by simp;omega) ?_
 unfold okQ at end_;generalize x.d.ok=b0 at end_ ⊢;generalize decide ((x.scans.n:Int)>12)=b1 at end_ ⊢;generalize decide ((x.hang.n:Int)>12)=b2 at end_ ⊢;generalize QY x.lost 0 9=b3 at end_ ⊢;generalize QY x.foreign 0 3=b4 at end_ ⊢
 repeat' first|refine QF rfl ?_|refine QF (by grind) ?_|refine JK fun z hz => ?_
 refine QI (fun q=>end_ (by grind)) (fun q => ?_)
 repeat' first|refine Qc (show _=_ by with_reducible rfl) ?_|refine Qc (show _≤_ from qlr _) ?_|refine Qc (show QD _ _ _ _ from qRr) ?_
 refine YE (KY fun h=>KX fun g=>end_ (by grind)) (KY fun h=>KX fun g => ?_)
 repeat' first|refine Qc (show _=_ by with_reducible rfl) ?_|refine Qc (show _≤_ from qlr _) ?_|refine Qc (show QD _ _ _ _ from qRr) ?_
 refine YE (KY fun h2=>KX fun g=>end_ (by grind)) (KY fun h2=>KX fun g=>end_ (by grind))
theorem QRc:QQ Try.prog 35 QFm:=
 Jc (Xl Wz) Try.func35 (by kernel_rfl) (by kernel_rfl) (by decide) QR1 QQb
def Zp:Tab:=Qb VN 35 QFm
theorem QCB:QV Zp:=Wz.add QRc
def QD7(x:QE)(c s:Int):Bool:=decide ((x.d.ps.n:Int)>14)||(decide ((x.scans.n:Int)>18)||(decide ((x.hang.n:Int)>18)||(x.ok&&(decide ((x.d.ps.n:Int)>c)||decide ((x.scans.n:Int)>s)))))
def Wd:WF (QE×Int×Int×Unit):=fun|(x,(c,(s,_)))=>(true,.bool false (QD7 x c s),[])
def QI9:FC:=wFC Wd
theorem QQs(x:QE)(c:Int)(s:Int):Kd (mkS Try.prog Zp) (hnd (mkS Try.prog Zp) 1) Try.f34 (QU.vals 0 ((x,c,s,()):QE×Int×Int×Unit)) (QU.blks 0 ((x,c,s,()):QE×Int×Int×Unit))
  8 = .need (!!decide ((x.d.ps.n:Int)>14) || !decide ((x.d.ps.n:Int)>14)) (.need (!!decide ((x.d.ps.n:Int)>14) || !decide ((x.d.ps.n:Int)>14)) (.need (!!decide
  ((x.d.ps.n:Int)>14) || !decide ((x.d.ps.n:Int)>14)) (.need (decide ((x.d.ps.n:Int)>14) || !decide ((x.d.ps.n:Int)>14)) (.bnd (decide ((x.d.ps.n:Int)>14) ||
  decide ((x.scans.n:Int)>18)) (fun(x0:Bool) => .need (!!x0 || !x0) (.need (!!x0 || !x0) (.need (!!x0 || !x0) (.need (x0 || !x0) (.bnd (x0||decide ((x.hang.n:Int)>18))
  (fun(x1:Bool) => .need (!!x1||decide (x.d.ps.n≤x.d.ps.n)&&(decide (x.scans.n≤x.scans.n)&&(decide (x.hang.n≤x.hang.n)&&true))&&decide (x.d.ps.n≤1000∧x.scans.n
  ≤ 1000∧x.hang.n≤1000) && !x1) (.need (!!x1 || !x1) (.need (!(!x1&&x.ok) || !x1&&x.ok) (.need (!(!x1&&x.ok) || !x1&&x.ok) (.need (!(!x1&&x.ok) || !x1&&x.ok) (.need
  (!(!x1&&x.ok) || !x1&&x.ok&&(!x1&&x.ok)) (.need (!(!x1&&x.ok) || !x1&&x.ok) (.need (!(!x1&&x.ok && !decide ((x.d.ps.n:Int)>c)) || !x1&&x.ok && !decide ((x.d.ps.n
  : Int)>c)) (.need (!(!x1&&x.ok && !decide ((x.d.ps.n:Int)>c)) || !x1&&x.ok && !decide ((x.d.ps.n:Int)>c)) (.need (!(!x1&&x.ok && !decide ((x.d.ps.n:Int)>c)) ||
  !x1&&x.ok && !decide ((x.d.ps.n:Int)>c)&&(!x1&&x.ok && !decide ((x.d.ps.n:Int)>c))) (.need (!(!x1&&x.ok) || !x1&&x.ok&&(decide ((x.d.ps.n:Int)>c) || !x1 &&
  x.ok && !decide ((x.d.ps.n:Int)>c))) (.bnd (decide ((x.d.ps.n:Int)>c)||decide ((x.scans.n:Int)>s)) (fun(x2:Bool) => .need (!!x1 || !x1&&(!x.ok || !x1&&x.ok))
  (.bnd (x.ok&&x2) (fun(x3:Bool) => .need (x1 || !x1) (.bnd (x1||x3) (fun(x4:Bool) => .leaf (.bool false x4) ([]))))))))))))))))))))))))))):=by kernel_rfl
theorem QNs:JN (mkS Try.prog Zp) (Qr Try.f34) 8 Wd (fun x_=>(hnd (mkS Try.prog Zp) 1)):=by
 refine⟨?_⟩;rintro⟨x,⟨c,⟨s,⟨⟩⟩⟩⟩ hp G h1 h2;exact Q3 (Xl QCB) 1 G _ h1
theorem QS9:JM (mkS Try.prog Zp) Try.f34 8 Wd (fun x_=>(hnd (mkS Try.prog Zp) 1)):=by
 refine⟨?_⟩;rintro⟨x,⟨c,⟨s,⟨⟩⟩⟩⟩ hp;refine⟨⟨rfl,by simp[Wd],rfl⟩,⟨?_⟩⟩
 rw[QQs x c s];simp only[Wd]at hp;have end_:∀{z:Bool} {b:Bool},QD7 x c s=b→(QC.leaf (AV.bool z b) []).den (XX 8 (Wd (x,c,s,())).2.1 (Wd (x,c,s,())).2.2):=fun h=>K7 h.symm rfl
 have sm:decide ((x.d.ps.n:Int)>14)=false→decide ((x.scans.n:Int)>18)=false→decide ((x.hang.n:Int)>18)=false→(decide (x.d.ps.n≤x.d.ps.n)&&(decide (x.scans.n≤x.scans.n)&&(decide (x.hang.n≤x.hang.n)&&true))&&decide (x.d.ps.n≤(1000:Nat)∧x.scans.n≤(1000:Nat)∧x.hang.n≤(1000:Nat)))=true:=by
  intro h1 h2 h3;simp only[decide_eq_false_iff_not]at h1 h2 h3;simp;omega
 unfold QD7 at end_;generalize (decide (x.d.ps.n≤x.d.ps.n)&&(decide (x.scans.n≤x.scans.n)&&(decide (x.hang.n≤x.hang.n)&&true))&&decide (x.d.ps.n≤(1000:Nat)∧x.scans.n≤(1000:Nat)∧x.hang.n≤(1000:Nat)))=w at sm ⊢;generalize decide ((x.d.ps.n:Int)>14)=b0 at sm end_ ⊢;generalize decide ((x.scans.n:Int)>18)=b1 at sm end_ ⊢;generalize decide ((x.hang.n:Int)>18)=b2 at sm end_ ⊢;generalize decide ((x.d.ps.n:Int)>c)=b3 at end_ ⊢;generalize decide ((x.scans.n:Int)>s)=b4 at end_ ⊢;generalize x.ok=b5 at end_ ⊢
 repeat' first|refine QF rfl ?_|refine QF (by clear end_;grind) ?_|refine JK fun z hz => ?_
 refine end_ ?_;clear end_ sm;subst_vars;cases b0<;>cases b1<;>cases b2<;>cases b3<;>cases b4<;>cases b5<;>rfl
theorem QR6:QQ Try.prog 34 QI9:=
 Jc (Xl QCB) Try.func34 (by kernel_rfl) (by kernel_rfl) (by decide) QNs QS9
def QK2:Tab:=Qb Zp 34 QI9
theorem QUd:QV QK2:=QCB.add QR6
end Go.Proofs.Ytbpffdkemeoajaa
namespace Go.SX
open Go Go.RowKit Go.Proofs.Ytbpffdkemeoajaa
def QKQ(rw_:Bool)(E:Env)(H:Hnd)(fn:Func):FC:=fun args nid _=>vU rw_ E H fn args nid (XH (AV.idsFromL 0 args) [])
variable {f:FuncId}
theorem QM7{E:Env}(hE:E.Sound){H:Hnd}{rw_:Bool}{fn:Func}{c:Code}(hf:E.P.funcs[f]? = some fn)(hb:fn.body=some c)(hgo:JY E.P f=true)(hl:∀ G,G.rd=none→KH E G H c):QQ E.P f (QKQ rw_ E H fn):=by
 have h:=QBI (rw_:=rw_) hE hf hb hgo hl;exact⟨h.1,fun args nid all r w lk blks eff hH ha hv he hp=>h.2 args nid (XH (AV.idsFromL 0 args) []) r w lk blks eff hH ha hv he hp⟩
def QCn(fc:FC):FC:=fun args nid _=>((fc args nid (XH (AV.idsFromL 0 args) [])).1,fun blks=>match (fc args nid (XH (AV.idsFromL 0 args) [])).2 blks with
 | some e=>some ⟨true,e.pre,e.val.setK true,e.upd⟩
 | none=>none)
theorem QSa{P:Program}{fc:FC}(h:QQ P f fc):QQ P f (QCn fc):=by
 refine⟨h.1,fun args nid all r w lk blks eff hH ha hv he hp => ?_⟩;simp only[QCn]at hv he;split at he<;>(try (cases he;done))
 rename_i e h0;simp only[qsI]at he;subst he;refine(h.2 args nid (XH (AV.idsFromL 0 args) []) r w lk blks e hH ha hv h0 hp).mono ?_;rintro e' w' ⟨r',rfl,hpost⟩;exact⟨r',by simp only;rw[WL],hpost⟩
end Go.SX
namespace Go.Proofs.Ytbpffdkemeoajaa
open Go.SX
abbrev mkG(P:Program)(C:Tab):Env:=⟨P,C,Zs P,false,fun _=>false,false,true,false⟩
theorem QBy{C:Tab}(hC:QV C):(mkG Try.prog C).Sound:={ c:=hC,m:=jc Try.prog,mixed:=W8 }
def QML:List (Nat×Nat)→Nat→Nat
 | [],_=>0
 | (g,k)::l,f=>match Nat.beq g f with
  | true=>k
  | false=>QML l f
def YT(P:Program)(B:Tab)(l:List (Nat×Nat)):Nat→Tab
 | 0=>fun _=>none
 | d+1=>fun f=>match B f with
  | some fc=>some (QCn fc)
  | none=>match QML l f with
   | 0=>none
   | k=>match P.funcs[f]? with
    | none=>none
    | some fn=>match fn.body.isSome&&JY P f with
     | false=>none
     | true=>match k with
      | 1=>some (QKQ false (mkG P (YT P B l d)) (hnd (mkG P (YT P B l d)) 60) fn)
      | 2=>some (vU false (mkG P (YT P B l d)) (hnd (mkG P (YT P B l d)) 60) fn)
      | _=>some (vU true (mkG P (YT P B l d)) (hnd (mkG P (YT P B l d)) 60) fn)
theorem QHD{B:Tab}(hB:QV B)(l:List (Nat×Nat)):∀ d,QV (YT Try.prog B l d)
 | 0=>fun f fc h=>by cases h
 | d+1=>fun f fc h=>by
  have ih:=QBy (QHD hB l d);simp only[YT]at h;split at h
  ·rename_i fc0 h0;simp only[qsI]at h;subst h;exact QSa (hB _ _ h0)
  split at h
  ·cases h
  ·split at h
   ·cases h
   ·rename_i fn hf;split at h
    ·cases h
    ·rename_i hb;simp only[qbA,Option.isSome_iff_exists]at hb;obtain⟨⟨c,hc⟩,hgo⟩:=hb;split at h<;>simp only[qsI]at h<;>subst h
     ·exact QM7 ih hf hc hgo fun G hG=>Q3 ih 60 G _ hG
     ·exact QBI ih hf hc hgo fun G hG=>Q3 ih 60 G _ hG
     ·exact QBI ih hf hc hgo fun G hG=>Q3 ih 60 G _ hG
def QS6:Unit→Bool×AV:=fun _=>(true,.bool false true)
def QC2:FC:=Q5 (Q6 QS6)
variable {f:FuncId}
theorem QTq{C:Tab}(hC:QV C)(d:Nat){fn:Func}(hf:Try.prog.funcs[f]? = some fn)(hb:fn.body=some (Qr fn))(hgo:JY Try.prog f=true)(h:Q2 (mkG Try.prog C) (hnd (mkG Try.prog C) d) false fn [] [] 0 = .leaf (.bool true true) []):QQ Try.prog f QC2:=by
 refine QC0 (QBy hC) hf hb hgo (fun G _ hG=>Q3 (QBy hC) d G _ hG) ?_;rintro⟨⟩ _;rw[show(Qm.enc ((()):Unit):List AV)=[]from rfl,h];rfl
def QC8:List (Nat×Nat):=[(95,1)]
theorem QRN:Q2 (mkG Try.prog (YT Try.prog Vx QC8 12)) (hnd (mkG Try.prog (YT Try.prog Vx QC8 12)) 100) false Try.f12 [] [] 0 = .leaf (.bool true true) []:=by kernel_rfl
theorem QWC:QQ Try.prog 12 QC2:=QTq (QHD Zh QC8 12) 100 Try.func12 (by kernel_rfl) (by kernel_rfl) QRN
end Go.Proofs.Ytbpffdkemeoajaa
