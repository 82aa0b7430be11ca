/- - -/
import Derived.Test.YtbpffdkemeoajaaMxzd
import Derived.Test.YtbpffdkemeoajaaMxze
import Derived.Test.YtbpffdkemeoajaaMxr
import Derived.Test.YtbpffdkemeoajaaMxp
import Derived.Test.YtbpffdkemeoajaaMxt
set_option maxRecDepth 100000
namespace Go.Proofs.Ytbpffdkemeoajaa
open Go.SX
theorem QJP{d:Puz}(h:d.ok=true):d.play.ok=true:=by
 rw[←GV]at h;simp only[okR,qbA]at h;exact h.1
theorem QDK{x:QD}(h:x.d.ok=true):Js x.d.play x.scans=(QL (XO x) x.scans.n 0).isNone:=by
 unfold Js
 have:Km ⟨x.d.play⟩ x.scans=XO x:=by
  funext k;simp only[Km,XO,QJP h,Bool.true_and]
 rw[this]
def okQ(x:QD):Bool := !(((((!x.d.ok||decide ((x.scans.n:Int)>12))||decide ((x.hang.n:Int)>12)) || !QX x.lost 0 9) || !QX x.foreign 0 3))&&((QL (XO x) x.scans.n 0).isNone&&(QL (Ki x) x.hang.n 0).isNone)
theorem QP0(x:QD):okQ x=x.ok:=by
 unfold okQ QD.ok QD.sz jxO;cases h:x.d.ok with
 | false=>simp
 | true=>
  rw[QDK h,QC4]
  by_cases h1:(x.scans.n:Int)>12<;>by_cases h2:(x.hang.n:Int)>12<;>cases QX x.lost 0 9<;>cases QX x.foreign 0 3<;>simp_all<;>omega
def WS:WF (QD×Unit):=fun|(x,_)=>(decide (x.d.ps.n≤1000∧x.scans.n≤1000∧x.hang.n≤1000),.bool false x.ok,[])
def QIx:FC:=wFC WS
theorem QQj(x:QD):KY (mkS Try.prog J1) (Hd Try.prog x) Try.f35 (QS.vals 0 ((x,()):QD×Unit)) (QS.blks 0 ((x,()):QD×Unit)) 8 = .need (decide (x.d.ps.n≤x.d.ps.n)&&true
  && decide (x.d.ps.n≤1000)) (.need (!!!x.d.ok || !!x.d.ok) (.need (!!!x.d.ok || !!x.d.ok) (.need (!!!x.d.ok || !!x.d.ok) (.need (!x.d.ok || !!x.d.ok) (.bnd (!x.d.ok||decide
  ((x.scans.n:Int)>12)) (fun(x0:Bool) => .need (!!x0 || !x0) (.need (!!x0 || !x0) (.need (!!x0 || !x0) (.need (x0 || !x0) (.bnd (x0||decide ((x.hang.n:Int)>12)) (fun(x1
  : Bool) => .need (!!x1 || !x1) (.need (!!x1||true && !x1) (.need (!!x1 || !x1) (.need (x1 || !x1) (.bnd (x1 || !QX x.lost (0:Int) (9:Int)) (fun(x2:Bool) => .need (!!x2
  || !x2) (.need (!!x2||true && !x2) (.need (!!x2 || !x2) (.need (x2 || !x2) (.bnd (x2 || !QX x.foreign (0:Int) (3:Int)) (fun(x3:Bool) => .br (x3) (.leaf (.bool true
  false) ([])) (.ask (0=0) (.ask (0=0) (.ask ((0:Int)=0) (.ask (x.d.play.length=x.d.play.length) (.ask (x.d.play.slack=x.d.play.slack) (.ask (x.d.play.loose =
  x.d.play.loose) (.ask (x.d.play.damp.lo=x.d.play.damp.lo) (.ask (x.d.play.damp.hi=x.d.play.damp.hi) (.ask (x.d.wide=x.d.wide) (.ask (x.d.high=x.d.high) (.ask (x.d.turn =
  x.d.turn) (.ask (0=0) (.ask (x.d.ps.n=x.d.ps.n) (.ask (cO=cO) (.ask (0=0) (.ask (x.scans.n=x.scans.n) (.ask (cO=cO) (.ask (0=0) (.ask (x.hang.n
  = x.hang.n) (.ask (cO=cO) (.ask (x.lost=x.lost) (.ask (x.foreign=x.foreign) (.ask (x.d.ps.n≤x.d.ps.n) (.ask (QE 28 x.d.ps.n (fun i=>QA.enc (x.d.ps.get
  i)) fun i=>QA.enc (x.d.ps.get i)) (.ask (x.scans.n≤x.scans.n) (.ask (QE 28 x.scans.n (fun i=>QA.enc (x.scans.get i)) fun i=>QA.enc (x.scans.get i)) (.ask (x.hang.n
  ≤ x.hang.n) (.ask (QE 4 x.hang.n (fun i=>QA.enc (x.hang.get i)) fun i=>QA.enc (x.hang.get i)) (.both (.asm ((QL (XO x) x.scans.n 0).isNone=false) (.all (fun(g4
  : Nat→Value) => .leaf (.bool false false) ([])))) (.asm ((QL (XO x) x.scans.n 0).isNone=true) (.all (fun(g5:Nat→Value) => .ask (0=0) (.ask (0=0) (.ask ((0:Int)
  = 0) (.ask (x.d.play.length=x.d.play.length) (.ask (x.d.play.slack=x.d.play.slack) (.ask (x.d.play.loose=x.d.play.loose) (.ask (x.d.play.damp.lo=x.d.play.damp.lo) (.ask
  (x.d.play.damp.hi=x.d.play.damp.hi) (.ask (x.d.wide=x.d.wide) (.ask (x.d.high=x.d.high) (.ask (x.d.turn=x.d.turn) (.ask (0=0) (.ask (x.d.ps.n=x.d.ps.n) (.ask (cO =
  cO) (.ask (0=0) (.ask (x.scans.n=x.scans.n) (.ask (cO=cO) (.ask (0=0) (.ask (x.hang.n=x.hang.n) (.ask (cO=cO) (.ask (x.lost=x.lost) (.ask
  (x.foreign=x.foreign) (.ask (x.d.ps.n≤x.d.ps.n) (.ask (QE 28 x.d.ps.n (fun i=>QA.enc (x.d.ps.get i)) fun i=>QA.enc (x.d.ps.get i)) (.ask (x.scans.n≤x.scans.n)
  (.ask (QE 28 x.scans.n (fun i=>QA.enc (x.scans.get i)) fun i=>QA.enc (x.scans.get i)) (.ask (x.hang.n≤x.hang.n) (.ask (QE 4 x.hang.n (fun i=>QA.enc (x.hang.get
  i)) fun i=>QA.enc (x.hang.get i)) (.both (.asm ((QL (Ki x) x.hang.n 0).isNone=false) (.all (fun(g6:Nat→Value) => .leaf (.bool false false) ([])))) (.asm ((QL
  (Ki x) x.hang.n 0).isNone=true) (.all (fun(g7:Nat→Value) => .leaf (.bool true true) ([]))))))))))))))))))))))))))))))))))))))))))))))))))))))))))))))))))))))))))))))))))))):=by kernel_rfl
theorem QSG:Kx (mkS Try.prog J1) (Qq Try.f35) 8 WS (fun x_=>(Hd Try.prog x_.1)):=by
 refine⟨?_⟩;rintro⟨x,⟨⟩⟩ hp G h1 h2;exact QV8 x (qdt hp).2.1 (qdt hp).2.2 G h1 h2
theorem QT3:K3 (mkS Try.prog J1) Try.f35 8 WS (fun x_=>(Hd Try.prog x_.1)):=by
 refine⟨?_⟩;rintro⟨x,⟨⟩⟩ hp;refine⟨⟨rfl,by simp[WS],rfl⟩,⟨?_⟩⟩
 rw[QQj x];simp only[WS]at hp;obtain⟨hn,_,_⟩:=qdt hp;have end_:∀{z:Bool} {b:Bool},okQ x=b→(QB.leaf (AV.bool z b) []).den (XI 8 (WS (x,())).2.1 (WS (x,())).2.2):=fun{z b} h=>Ke (show b=x.ok by rw[←QP0];exact h.symm) rfl
 refine QF (by simp;omega) ?_
 unfold okQ at end_;generalize x.d.ok=b0 at end_ ⊢;generalize decide ((x.scans.n:Int)>12)=b1 at end_ ⊢;generalize decide ((x.hang.n:Int)>12)=b2 at end_ ⊢;generalize QX x.lost 0 9=b3 at end_ ⊢;generalize QX x.foreign 0 3=b4 at end_ ⊢
 repeat' first|refine QF rfl ?_|refine QF (by grind) ?_|refine V7 fun z hz => ?_
 refine QK (fun q=>end_ (by grind)) (fun q => ?_)
 repeat' first|refine Qa (show _=_ by with_reducible rfl) ?_|refine Qa (show _≤_ from qlr _) ?_|refine Qa (show QE _ _ _ _ from qRr) ?_
 refine XQ (KQ fun h=>KN fun g=>end_ (by grind)) (KQ fun h=>KN fun g => ?_)
 repeat' first|refine Qa (show _=_ by with_reducible rfl) ?_|refine Qa (show _≤_ from qlr _) ?_|refine Qa (show QE _ _ _ _ from qRr) ?_
 refine XQ (KQ fun h2=>KN fun g=>end_ (by grind)) (KQ fun h2=>KN fun g=>end_ (by grind))
theorem QV6:QQ Try.prog 35 QIx:=
 K9 (X3 Zw) Try.func35 (by kernel_rfl) (by kernel_rfl) (by decide) QSG QT3
def Yx:Tab:=Qb J1 35 QIx
theorem QCl:QV Yx:=Zw.add QV6
def Vh(x:QD)(c s:Int):Bool:=decide ((x.d.ps.n:Int)>14)||(decide ((x.scans.n:Int)>18)||(decide ((x.hang.n:Int)>18)||(x.ok&&(decide ((x.d.ps.n:Int)>c)||decide ((x.scans.n:Int)>s)))))
def WT:WF (QD×Int×Int×Unit):=fun|(x,(c,(s,_)))=>(true,.bool false (Vh x c s),[])
def QKU:FC:=wFC WT
theorem QSv(x:QD)(c:Int)(s:Int):KY (mkS Try.prog Yx) (hnd (mkS Try.prog Yx) 1) Try.f34 (QS.vals 0 ((x,c,s,()):QD×Int×Int×Unit)) (QS.blks 0 ((x,c,s,()):QD×Int×Int×Unit))
  8 = .need (!!decide ((x.d.ps.n:Int)>14) || !decide ((x.d.ps.n:Int)>14)) (.need (!!decide ((x.d.ps.n:Int)>14) || !decide ((x.d.ps.n:Int)>14)) (.need (!!decide
  ((x.d.ps.n:Int)>14) || !decide ((x.d.ps.n:Int)>14)) (.need (decide ((x.d.ps.n:Int)>14) || !decide ((x.d.ps.n:Int)>14)) (.bnd (decide ((x.d.ps.n:Int)>14) ||
  decide ((x.scans.n:Int)>18)) (fun(x0:Bool) => .need (!!x0 || !x0) (.need (!!x0 || !x0) (.need (!!x0 || !x0) (.need (x0 || !x0) (.bnd (x0||decide ((x.hang.n:Int)>18))
  (fun(x1:Bool) => .need (!!x1||decide (x.d.ps.n≤x.d.ps.n)&&(decide (x.scans.n≤x.scans.n)&&(decide (x.hang.n≤x.hang.n)&&true))&&decide (x.d.ps.n≤1000∧x.scans.n
  ≤ 1000∧x.hang.n≤1000) && !x1) (.need (!!x1 || !x1) (.need (!(!x1&&x.ok) || !x1&&x.ok) (.need (!(!x1&&x.ok) || !x1&&x.ok) (.need (!(!x1&&x.ok) || !x1&&x.ok) (.need
  (!(!x1&&x.ok) || !x1&&x.ok&&(!x1&&x.ok)) (.need (!(!x1&&x.ok) || !x1&&x.ok) (.need (!(!x1&&x.ok && !decide ((x.d.ps.n:Int)>c)) || !x1&&x.ok && !decide ((x.d.ps.n
  : Int)>c)) (.need (!(!x1&&x.ok && !decide ((x.d.ps.n:Int)>c)) || !x1&&x.ok && !decide ((x.d.ps.n:Int)>c)) (.need (!(!x1&&x.ok && !decide ((x.d.ps.n:Int)>c)) ||
  !x1&&x.ok && !decide ((x.d.ps.n:Int)>c)&&(!x1&&x.ok && !decide ((x.d.ps.n:Int)>c))) (.need (!(!x1&&x.ok) || !x1&&x.ok&&(decide ((x.d.ps.n:Int)>c) || !x1 &&
  x.ok && !decide ((x.d.ps.n:Int)>c))) (.bnd (decide ((x.d.ps.n:Int)>c)||decide ((x.scans.n:Int)>s)) (fun(x2:Bool) => .need (!!x1 || !x1&&(!x.ok || !x1&&x.ok))
  (.bnd (x.ok&&x2) (fun(x3:Bool) => .need (x1 || !x1) (.bnd (x1||x3) (fun(x4:Bool) => .leaf (.bool false x4) ([]))))))))))))))))))))))))))):=by kernel_rfl
theorem QTn:Kx (mkS Try.prog Yx) (Qq Try.f34) 8 WT (fun x_=>(hnd (mkS Try.prog Yx) 1)):=by
 refine⟨?_⟩;rintro⟨x,⟨c,⟨s,⟨⟩⟩⟩⟩ hp G h1 h2;exact Qv (X3 QCl) 1 G _ h1
theorem QMg:K3 (mkS Try.prog Yx) Try.f34 8 WT (fun x_=>(hnd (mkS Try.prog Yx) 1)):=by
 refine⟨?_⟩;rintro⟨x,⟨c,⟨s,⟨⟩⟩⟩⟩ hp;refine⟨⟨rfl,by simp[WT],rfl⟩,⟨?_⟩⟩
 rw[QSv x c s];simp only[WT]at hp;have end_:∀{z:Bool} {b:Bool},Vh x c s=b→(QB.leaf (AV.bool z b) []).den (XI 8 (WT (x,c,s,())).2.1 (WT (x,c,s,())).2.2):=fun h=>Ke h.symm rfl
 have sm:decide ((x.d.ps.n:Int)>14)=false→decide ((x.scans.n:Int)>18)=false→decide ((x.hang.n:Int)>18)=false→(decide (x.d.ps.n≤x.d.ps.n)&&(decide (x.scans.n≤x.scans.n)&&(decide (x.hang.n≤x.hang.n)&&true))&&decide (x.d.ps.n≤(1000:Nat)∧x.scans.n≤(1000:Nat)∧x.hang.n≤(1000:Nat)))=true:=by
  intro h1 h2 h3;simp only[decide_eq_false_iff_not]at h1 h2 h3;simp;omega
 unfold Vh at end_;generalize (decide (x.d.ps.n≤x.d.ps.n)&&(decide (x.scans.n≤x.scans.n)&&(decide (x.hang.n≤x.hang.n)&&true))&&decide (x.d.ps.n≤(1000:Nat)∧x.scans.n≤(1000:Nat)∧x.hang.n≤(1000:Nat)))=w at sm ⊢;generalize decide ((x.d.ps.n:Int)>14)=b0 at sm end_ ⊢;generalize decide ((x.scans.n:Int)>18)=b1 at sm end_ ⊢;generalize decide ((x.hang.n:Int)>18)=b2 at sm end_ ⊢;generalize decide ((x.d.ps.n:Int)>c)=b3 at end_ ⊢;generalize decide ((x.scans.n:Int)>s)=b4 at end_ ⊢;generalize x.ok=b5 at end_ ⊢
 repeat' first|refine QF rfl ?_|refine QF (by clear end_;grind) ?_|refine V7 fun z hz => ?_
 refine end_ ?_;clear end_ sm;subst_vars;cases b0<;>cases b1<;>cases b2<;>cases b3<;>cases b4<;>cases b5<;>rfl
theorem QPG:QQ Try.prog 34 QKU:=
 K9 (X3 QCl) Try.func34 (by kernel_rfl) (by kernel_rfl) (by decide) QTn QMg
def QIp:Tab:=Qb Yx 34 QKU
theorem QSC:QV QIp:=QCl.add QPG
end Go.Proofs.Ytbpffdkemeoajaa
namespace Go.SX
open Go Go.RowKit Go.Proofs.Ytbpffdkemeoajaa
def QF9(rw_:Bool)(E:Env)(H:Hnd)(fn:Func):FC:=fun args nid _=>jf rw_ E H fn args nid (Vl (AV.idsFromL 0 args) [])
variable {f:FuncId}
theorem QOH{E:Env}(hE:E.Sound){H:Hnd}{rw_:Bool}{fn:Func}{c:Code}(hf:E.P.funcs[f]? = some fn)(hb:fn.body=some c)(hgo:JM E.P f=true)(hl:∀ G,G.rd=none→Q5 E G H c):QQ E.P f (QF9 rw_ E H fn):=by
 have h:=QDi (rw_:=rw_) hE hf hb hgo hl;exact⟨h.1,fun args nid all r w lk blks eff hH ha hv he hp=>h.2 args nid (Vl (AV.idsFromL 0 args) []) r w lk blks eff hH ha hv he hp⟩
def QDk(fc:FC):FC:=fun args nid _=>((fc args nid (Vl (AV.idsFromL 0 args) [])).1,fun blks=>match (fc args nid (Vl (AV.idsFromL 0 args) [])).2 blks with
 | some e=>some ⟨true,e.pre,e.val.setK true,e.upd⟩
 | none=>none)
theorem QMl{P:Program}{fc:FC}(h:QQ P f fc):QQ P f (QDk fc):=by
 refine⟨h.1,fun args nid all r w lk blks eff hH ha hv he hp => ?_⟩;simp only[QDk]at hv he;split at he<;>(try (cases he;done))
 rename_i e h0;simp only[qsI]at he;subst he;refine(h.2 args nid (Vl (AV.idsFromL 0 args) []) r w lk blks e hH ha hv h0 hp).mono ?_;rintro e' w' ⟨r',rfl,hpost⟩;exact⟨r',by simp only;rw[Zy],hpost⟩
end Go.SX
namespace Go.Proofs.Ytbpffdkemeoajaa
open Go.SX
abbrev mkG(P:Program)(C:Tab):Env:=⟨P,C,Zz P,false,fun _=>false,false,true,false⟩
theorem QC7{C:Tab}(hC:QV C):(mkG Try.prog C).Sound:={ c:=hC,m:=jL Try.prog,mixed:=jQ }
def QH8:List (Nat×Nat)→Nat→Nat
 | [],_=>0
 | (g,k)::l,f=>match Nat.beq g f with
  | true=>k
  | false=>QH8 l f
def YH(P:Program)(B:Tab)(l:List (Nat×Nat)):Nat→Tab
 | 0=>fun _=>none
 | d+1=>fun f=>match B f with
  | some fc=>some (QDk fc)
  | none=>match QH8 l f with
   | 0=>none
   | k=>match P.funcs[f]? with
    | none=>none
    | some fn=>match fn.body.isSome&&JM P f with
     | false=>none
     | true=>match k with
      | 1=>some (QF9 false (mkG P (YH P B l d)) (hnd (mkG P (YH P B l d)) 60) fn)
      | 2=>some (jf false (mkG P (YH P B l d)) (hnd (mkG P (YH P B l d)) 60) fn)
      | _=>some (jf true (mkG P (YH P B l d)) (hnd (mkG P (YH P B l d)) 60) fn)
theorem QK8{B:Tab}(hB:QV B)(l:List (Nat×Nat)):∀ d,QV (YH Try.prog B l d)
 | 0=>fun f fc h=>by cases h
 | d+1=>fun f fc h=>by
  have ih:=QC7 (QK8 hB l d);simp only[YH]at h;split at h
  ·rename_i fc0 h0;simp only[qsI]at h;subst h;exact QMl (hB _ _ h0)
  split at h
  ·cases h
  ·split at h
   ·cases h
   ·rename_i fn hf;split at h
    ·cases h
    ·rename_i hb;simp only[qbA,Option.isSome_iff_exists]at hb;obtain⟨⟨c,hc⟩,hgo⟩:=hb;split at h<;>simp only[qsI]at h<;>subst h
     ·exact QOH ih hf hc hgo fun G hG=>Qv ih 60 G _ hG
     ·exact QDi ih hf hc hgo fun G hG=>Qv ih 60 G _ hG
     ·exact QDi ih hf hc hgo fun G hG=>Qv ih 60 G _ hG
def QVV:Unit→Bool×AV:=fun _=>(true,.bool false true)
def QBR:FC:=Q3 (Q1 QVV)
variable {f:FuncId}
theorem QPb{C:Tab}(hC:QV C)(d:Nat){fn:Func}(hf:Try.prog.funcs[f]? = some fn)(hb:fn.body=some (Qq fn))(hgo:JM Try.prog f=true)(h:Qt (mkG Try.prog C) (hnd (mkG Try.prog C) d) false fn [] [] 0 = .leaf (.bool true true) []):QQ Try.prog f QBR:=by
 refine QBg (QC7 hC) hf hb hgo (fun G _ hG=>Qv (QC7 hC) d G _ hG) ?_;rintro⟨⟩ _;rw[show(Qm.enc ((()):Unit):List AV)=[]from rfl,h];rfl
def QA1:List (Nat×Nat):=[(95,1)]
theorem QPQ:Qt (mkG Try.prog (YH Try.prog K5 QA1 12)) (hnd (mkG Try.prog (YH Try.prog K5 QA1 12)) 100) false Try.f12 [] [] 0 = .leaf (.bool true true) []:=by kernel_rfl
theorem QNr:QQ Try.prog 12 QBR:=QPb (QK8 V6 QA1 12) 100 Try.func12 (by kernel_rfl) (by kernel_rfl) QPQ
end Go.Proofs.Ytbpffdkemeoajaa
