/- - -/
import Derived.Test.YtbpffdkemeoajaaMwzi
import Derived.Test.YtbpffdkemeoajaaMwzj
import Derived.Test.YtbpffdkemeoajaaMwr
import Derived.Test.YtbpffdkemeoajaaMwp
import Derived.Test.YtbpffdkemeoajaaMwt
set_option maxRecDepth 100000
namespace Go.Proofs.Ytbpffdkemeoajaa
open Go.SX
theorem QRZ{d:Puz}(h:d.ok=true):d.play.ok=true:=by
 rw[←QB0]at h;simp only[okR,qbA]at h;exact h.1
theorem QRS{x:QE}(h:x.d.ok=true):VR x.d.play x.scans=(QQ (Yl x) x.scans.n 0).isNone:=by
 unfold VR
 have:JA ⟨x.d.play⟩ x.scans=Yl x:=by
  funext k;simp only[JA,Yl,QRZ h,Bool.true_and]
 rw[this]
def okQ(x:QE):Bool := !(((((!x.d.ok||decide ((x.scans.n:Int)>12))||decide ((x.hang.n:Int)>12)) || !Qf x.lost 0 9) || !Qf x.foreign 0 3))&&((QQ (Yl x) x.scans.n 0).isNone&&(QQ (K8 x) x.hang.n 0).isNone)
theorem QYK(x:QE):okQ x=x.ok:=by
 unfold okQ QE.ok QE.sz jxO;cases h:x.d.ok with
 | false=>simp
 | true=>
  rw[QRS h,QEz]
  by_cases h1:(x.scans.n:Int)>12<;>by_cases h2:(x.hang.n:Int)>12<;>cases Qf x.lost 0 9<;>cases Qf x.foreign 0 3<;>simp_all<;>omega
def qN:WF (QE×Unit):=fun|(x,_)=>(decide (x.d.ps.n≤1000∧x.scans.n≤1000∧x.hang.n≤1000),.bool false x.ok,[])
def QL0:FC:=wFC qN
theorem QV1(x:QE):KR (mkS Try.prog VT) (Hz Try.prog x) Try.f35 (QX.vals 0 ((x,()):QE×Unit)) (QX.blks 0 ((x,()):QE×Unit)) 8 = .need (decide (x.d.ps.n≤x.d.ps.n)&&true
  && decide (x.d.ps.n≤1000)) (.need (!!!x.d.ok || !!x.d.ok) (.need (!!!x.d.ok || !!x.d.ok) (.need (!!!x.d.ok || !!x.d.ok) (.need (!x.d.ok || !!x.d.ok) (.bnd (!x.d.ok||decide
  ((x.scans.n:Int)>12)) (fun(x0:Bool) => .need (!!x0 || !x0) (.need (!!x0 || !x0) (.need (!!x0 || !x0) (.need (x0 || !x0) (.bnd (x0||decide ((x.hang.n:Int)>12)) (fun(x1
  : Bool) => .need (!!x1 || !x1) (.need (!!x1||true && !x1) (.need (!!x1 || !x1) (.need (x1 || !x1) (.bnd (x1 || !Qf x.lost (0:Int) (9:Int)) (fun(x2:Bool) => .need (!!x2
  || !x2) (.need (!!x2||true && !x2) (.need (!!x2 || !x2) (.need (x2 || !x2) (.bnd (x2 || !Qf x.foreign (0:Int) (3:Int)) (fun(x3:Bool) => .br (x3) (.leaf (.bool true
  false) ([])) (.ask (0=0) (.ask (0=0) (.ask ((0:Int)=0) (.ask (x.d.play.length=x.d.play.length) (.ask (x.d.play.slack=x.d.play.slack) (.ask (x.d.play.loose =
  x.d.play.loose) (.ask (x.d.play.damp.lo=x.d.play.damp.lo) (.ask (x.d.play.damp.hi=x.d.play.damp.hi) (.ask (x.d.wide=x.d.wide) (.ask (x.d.high=x.d.high) (.ask (x.d.turn =
  x.d.turn) (.ask (0=0) (.ask (x.d.ps.n=x.d.ps.n) (.ask (cO=cO) (.ask (0=0) (.ask (x.scans.n=x.scans.n) (.ask (cO=cO) (.ask (0=0) (.ask (x.hang.n
  = x.hang.n) (.ask (cO=cO) (.ask (x.lost=x.lost) (.ask (x.foreign=x.foreign) (.ask (x.d.ps.n≤x.d.ps.n) (.ask (QC 28 x.d.ps.n (fun i=>QA.enc (x.d.ps.get
  i)) fun i=>QA.enc (x.d.ps.get i)) (.ask (x.scans.n≤x.scans.n) (.ask (QC 28 x.scans.n (fun i=>QA.enc (x.scans.get i)) fun i=>QA.enc (x.scans.get i)) (.ask (x.hang.n
  ≤ x.hang.n) (.ask (QC 4 x.hang.n (fun i=>QA.enc (x.hang.get i)) fun i=>QA.enc (x.hang.get i)) (.both (.asm ((QQ (Yl x) x.scans.n 0).isNone=false) (.all (fun(g4
  : Nat→Value) => .leaf (.bool false false) ([])))) (.asm ((QQ (Yl x) x.scans.n 0).isNone=true) (.all (fun(g5:Nat→Value) => .ask (0=0) (.ask (0=0) (.ask ((0:Int)
  = 0) (.ask (x.d.play.length=x.d.play.length) (.ask (x.d.play.slack=x.d.play.slack) (.ask (x.d.play.loose=x.d.play.loose) (.ask (x.d.play.damp.lo=x.d.play.damp.lo) (.ask
  (x.d.play.damp.hi=x.d.play.damp.hi) (.ask (x.d.wide=x.d.wide) (.ask (x.d.high=x.d.high) (.ask (x.d.turn=x.d.turn) (.ask (0=0) (.ask (x.d.ps.n=x.d.ps.n) (.ask (cO =
  cO) (.ask (0=0) (.ask (x.scans.n=x.scans.n) (.ask (cO=cO) (.ask (0=0) (.ask (x.hang.n=x.hang.n) (.ask (cO=cO) (.ask (x.lost=x.lost) (.ask
  (x.foreign=x.foreign) (.ask (x.d.ps.n≤x.d.ps.n) (.ask (QC 28 x.d.ps.n (fun i=>QA.enc (x.d.ps.get i)) fun i=>QA.enc (x.d.ps.get i)) (.ask (x.scans.n≤x.scans.n)
  (.ask (QC 28 x.scans.n (fun i=>QA.enc (x.scans.get i)) fun i=>QA.enc (x.scans.get i)) (.ask (x.hang.n≤x.hang.n) (.ask (QC 4 x.hang.n (fun i=>QA.enc (x.hang.get
  i)) fun i=>QA.enc (x.hang.get i)) (.both (.asm ((QQ (K8 x) x.hang.n 0).isNone=false) (.all (fun(g6:Nat→Value) => .leaf (.bool false false) ([])))) (.asm ((QQ
  (K8 x) x.hang.n 0).isNone=true) (.all (fun(g7:Nat→Value) => .leaf (.bool true true) ([]))))))))))))))))))))))))))))))))))))))))))))))))))))))))))))))))))))))))))))))))))))):=by kernel_rfl
theorem QXp:JN (mkS Try.prog VT) (Qo Try.f35) 8 qN (fun x_=>(Hz Try.prog x_.1)):=by
 refine⟨?_⟩;rintro⟨x,⟨⟩⟩ hp G h1 h2;exact QO4 x (qdt hp).2.1 (qdt hp).2.2 G h1 h2
theorem QTB:JM (mkS Try.prog VT) Try.f35 8 qN (fun x_=>(Hz Try.prog x_.1)):=by
 refine⟨?_⟩;rintro⟨x,⟨⟩⟩ hp;refine⟨⟨rfl,by simp[qN],rfl⟩,⟨?_⟩⟩
 rw[QV1 x];simp only[qN]at hp;obtain⟨hn,_,_⟩:=qdt hp;have end_:∀{z:Bool} {b:Bool},okQ x=b→(QD.leaf (AV.bool z b) []).den (Xj 8 (qN (x,())).2.1 (qN (x,())).2.2):=fun{z b} h=>Kk (show b=x.ok by rw[←QYK];exact h.symm) rfl
 refine QF (by simp;omega) ?_
 unfold okQ at end_;generalize x.d.ok=b0 at end_ ⊢;generalize decide ((x.scans.n:Int)>12)=b1 at end_ ⊢;generalize decide ((x.hang.n:Int)>12)=b2 at end_ ⊢;generalize Qf x.lost 0 9=b3 at end_ ⊢;generalize Qf x.foreign 0 3=b4 at end_ ⊢
 repeat' first|refine QF rfl ?_|refine QF (by grind) ?_|refine Yb fun z hz => ?_
 refine QI (fun q=>end_ (by grind)) (fun q => ?_)
 repeat' first|refine QR (show _=_ by with_reducible rfl) ?_|refine QR (show _≤_ from qlr _) ?_|refine QR (show QC _ _ _ _ from qRr) ?_
 refine Xf (KA fun h=>Q6 fun g=>end_ (by grind)) (KA fun h=>Q6 fun g => ?_)
 repeat' first|refine QR (show _=_ by with_reducible rfl) ?_|refine QR (show _≤_ from qlr _) ?_|refine QR (show QC _ _ _ _ from qRr) ?_
 refine Xf (KA fun h2=>Q6 fun g=>end_ (by grind)) (KA fun h2=>Q6 fun g=>end_ (by grind))
theorem QPc:QO Try.prog 35 QL0:=
 JX (Yp qU) Try.func35 (by kernel_rfl) (by kernel_rfl) (by decide) QXp QTB
def Z9:Tab:=Qd VT 35 QL0
theorem QCv:QZ Z9:=qU.add QPc
def jk(x:QE)(c s:Int):Bool:=decide ((x.d.ps.n:Int)>14)||(decide ((x.scans.n:Int)>18)||(decide ((x.hang.n:Int)>18)||(x.ok&&(decide ((x.d.ps.n:Int)>c)||decide ((x.scans.n:Int)>s)))))
def Wr:WF (QE×Int×Int×Unit):=fun|(x,(c,(s,_)))=>(true,.bool false (jk x c s),[])
def QN7:FC:=wFC Wr
theorem QTn(x:QE)(c:Int)(s:Int):KR (mkS Try.prog Z9) (hnd (mkS Try.prog Z9) 1) Try.f34 (QX.vals 0 ((x,c,s,()):QE×Int×Int×Unit)) (QX.blks 0 ((x,c,s,()):QE×Int×Int×Unit))
  8 = .need (!!decide ((x.d.ps.n:Int)>14) || !decide ((x.d.ps.n:Int)>14)) (.need (!!decide ((x.d.ps.n:Int)>14) || !decide ((x.d.ps.n:Int)>14)) (.need (!!decide
  ((x.d.ps.n:Int)>14) || !decide ((x.d.ps.n:Int)>14)) (.need (decide ((x.d.ps.n:Int)>14) || !decide ((x.d.ps.n:Int)>14)) (.bnd (decide ((x.d.ps.n:Int)>14) ||
  decide ((x.scans.n:Int)>18)) (fun(x0:Bool) => .need (!!x0 || !x0) (.need (!!x0 || !x0) (.need (!!x0 || !x0) (.need (x0 || !x0) (.bnd (x0||decide ((x.hang.n:Int)>18))
  (fun(x1:Bool) => .need (!!x1||decide (x.d.ps.n≤x.d.ps.n)&&(decide (x.scans.n≤x.scans.n)&&(decide (x.hang.n≤x.hang.n)&&true))&&decide (x.d.ps.n≤1000∧x.scans.n
  ≤ 1000∧x.hang.n≤1000) && !x1) (.need (!!x1 || !x1) (.need (!(!x1&&x.ok) || !x1&&x.ok) (.need (!(!x1&&x.ok) || !x1&&x.ok) (.need (!(!x1&&x.ok) || !x1&&x.ok) (.need
  (!(!x1&&x.ok) || !x1&&x.ok&&(!x1&&x.ok)) (.need (!(!x1&&x.ok) || !x1&&x.ok) (.need (!(!x1&&x.ok && !decide ((x.d.ps.n:Int)>c)) || !x1&&x.ok && !decide ((x.d.ps.n
  : Int)>c)) (.need (!(!x1&&x.ok && !decide ((x.d.ps.n:Int)>c)) || !x1&&x.ok && !decide ((x.d.ps.n:Int)>c)) (.need (!(!x1&&x.ok && !decide ((x.d.ps.n:Int)>c)) ||
  !x1&&x.ok && !decide ((x.d.ps.n:Int)>c)&&(!x1&&x.ok && !decide ((x.d.ps.n:Int)>c))) (.need (!(!x1&&x.ok) || !x1&&x.ok&&(decide ((x.d.ps.n:Int)>c) || !x1 &&
  x.ok && !decide ((x.d.ps.n:Int)>c))) (.bnd (decide ((x.d.ps.n:Int)>c)||decide ((x.scans.n:Int)>s)) (fun(x2:Bool) => .need (!!x1 || !x1&&(!x.ok || !x1&&x.ok))
  (.bnd (x.ok&&x2) (fun(x3:Bool) => .need (x1 || !x1) (.bnd (x1||x3) (fun(x4:Bool) => .leaf (.bool false x4) ([]))))))))))))))))))))))))))):=by kernel_rfl
theorem QUR:JN (mkS Try.prog Z9) (Qo Try.f34) 8 Wr (fun x_=>(hnd (mkS Try.prog Z9) 1)):=by
 refine⟨?_⟩;rintro⟨x,⟨c,⟨s,⟨⟩⟩⟩⟩ hp G h1 h2;exact Qq (Yp QCv) 1 G _ h1
theorem QWi:JM (mkS Try.prog Z9) Try.f34 8 Wr (fun x_=>(hnd (mkS Try.prog Z9) 1)):=by
 refine⟨?_⟩;rintro⟨x,⟨c,⟨s,⟨⟩⟩⟩⟩ hp;refine⟨⟨rfl,by simp[Wr],rfl⟩,⟨?_⟩⟩
 rw[QTn x c s];simp only[Wr]at hp;have end_:∀{z:Bool} {b:Bool},jk x c s=b→(QD.leaf (AV.bool z b) []).den (Xj 8 (Wr (x,c,s,())).2.1 (Wr (x,c,s,())).2.2):=fun h=>Kk h.symm rfl
 have sm:decide ((x.d.ps.n:Int)>14)=false→decide ((x.scans.n:Int)>18)=false→decide ((x.hang.n:Int)>18)=false→(decide (x.d.ps.n≤x.d.ps.n)&&(decide (x.scans.n≤x.scans.n)&&(decide (x.hang.n≤x.hang.n)&&true))&&decide (x.d.ps.n≤(1000:Nat)∧x.scans.n≤(1000:Nat)∧x.hang.n≤(1000:Nat)))=true:=by
  intro h1 h2 h3;simp only[decide_eq_false_iff_not]at h1 h2 h3;simp;omega
 unfold jk at end_;generalize (decide (x.d.ps.n≤x.d.ps.n)&&(decide (x.scans.n≤x.scans.n)&&(decide (x.hang.n≤x.hang.n)&&true))&&decide (x.d.ps.n≤(1000:Nat)∧x.scans.n≤(1000:Nat)∧x.hang.n≤(1000:Nat)))=w at sm ⊢;generalize decide ((x.d.ps.n:Int)>14)=b0 at sm end_ ⊢;generalize decide ((x.scans.n:Int)>18)=b1 at sm end_ ⊢;generalize decide ((x.hang.n:Int)>18)=b2 at sm end_ ⊢;generalize decide ((x.d.ps.n:Int)>c)=b3 at end_ ⊢;generalize decide ((x.scans.n:Int)>s)=b4 at end_ ⊢;generalize x.ok=b5 at end_ ⊢
 repeat' first|refine QF rfl ?_|refine QF (by clear end_;grind) ?_|refine Yb fun z hz => ?_
 refine end_ ?_;clear end_ sm;subst_vars;cases b0<;>cases b1<;>cases b2<;>cases b3<;>cases b4<;>cases b5<;>rfl
theorem QX9:QO Try.prog 34 QN7:=
 JX (Yp QCv) Try.func34 (by kernel_rfl) (by kernel_rfl) (by decide) QUR QWi
def QJy:Tab:=Qd Z9 34 QN7
theorem QRt:QZ QJy:=QCv.add QX9
end Go.Proofs.Ytbpffdkemeoajaa
namespace Go.SX
open Go Go.RowKit Go.Proofs.Ytbpffdkemeoajaa
def QMo(rw_:Bool)(E:Env)(H:Hnd)(fn:Func):FC:=fun args nid _=>vY rw_ E H fn args nid (XW (AV.idsFromL 0 args) [])
variable {f:FuncId}
theorem QV9{E:Env}(hE:E.Sound){H:Hnd}{rw_:Bool}{fn:Func}{c:Code}(hf:E.P.funcs[f]? = some fn)(hb:fn.body=some c)(hgo:Jh E.P f=true)(hl:∀ G,G.rd=none→Q1 E G H c):QO E.P f (QMo rw_ E H fn):=by
 have h:=QGJ (rw_:=rw_) hE hf hb hgo hl;exact⟨h.1,fun args nid all r w lk blks eff hH ha hv he hp=>h.2 args nid (XW (AV.idsFromL 0 args) []) r w lk blks eff hH ha hv he hp⟩
def QFe(fc:FC):FC:=fun args nid _=>((fc args nid (XW (AV.idsFromL 0 args) [])).1,fun blks=>match (fc args nid (XW (AV.idsFromL 0 args) [])).2 blks with
 | some e=>some ⟨true,e.pre,e.val.setK true,e.upd⟩
 | none=>none)
theorem QT6{P:Program}{fc:FC}(h:QO P f fc):QO P f (QFe fc):=by
 refine⟨h.1,fun args nid all r w lk blks eff hH ha hv he hp => ?_⟩;simp only[QFe]at hv he;split at he<;>(try (cases he;done))
 rename_i e h0;simp only[qsI]at he;subst he;refine(h.2 args nid (XW (AV.idsFromL 0 args) []) r w lk blks e hH ha hv h0 hp).mono ?_;rintro e' w' ⟨r',rfl,hpost⟩;exact⟨r',by simp only;rw[qF],hpost⟩
end Go.SX
namespace Go.Proofs.Ytbpffdkemeoajaa
open Go.SX
abbrev mkG(P:Program)(C:Tab):Env:=⟨P,C,qa P,false,fun _=>false,false,true,false⟩
theorem QCu{C:Tab}(hC:QZ C):(mkG Try.prog C).Sound:={ c:=hC,m:=vc Try.prog,mixed:=zB }
def QIm:List (Nat×Nat)→Nat→Nat
 | [],_=>0
 | (g,k)::l,f=>match Nat.beq g f with
  | true=>k
  | false=>QIm l f
def Yo(P:Program)(B:Tab)(l:List (Nat×Nat)):Nat→Tab
 | 0=>fun _=>none
 | d+1=>fun f=>match B f with
  | some fc=>some (QFe fc)
  | none=>match QIm l f with
   | 0=>none
   | k=>match P.funcs[f]? with
    | none=>none
    | some fn=>match fn.body.isSome&&Jh P f with
     | false=>none
     | true=>match k with
      | 1=>some (QMo false (mkG P (Yo P B l d)) (hnd (mkG P (Yo P B l d)) 60) fn)
      | 2=>some (vY false (mkG P (Yo P B l d)) (hnd (mkG P (Yo P B l d)) 60) fn)
      | _=>some (vY true (mkG P (Yo P B l d)) (hnd (mkG P (Yo P B l d)) 60) fn)
theorem QGj{B:Tab}(hB:QZ B)(l:List (Nat×Nat)):∀ d,QZ (Yo Try.prog B l d)
 | 0=>fun f fc h=>by cases h
 | d+1=>fun f fc h=>by
  have ih:=QCu (QGj hB l d);simp only[Yo]at h;split at h
  ·rename_i fc0 h0;simp only[qsI]at h;subst h;exact QT6 (hB _ _ h0)
  split at h
  ·cases h
  ·split at h
   ·cases h
   ·rename_i fn hf;split at h
    ·cases h
    ·rename_i hb;simp only[qbA,Option.isSome_iff_exists]at hb;obtain⟨⟨c,hc⟩,hgo⟩:=hb;split at h<;>simp only[qsI]at h<;>subst h
     ·exact QV9 ih hf hc hgo fun G hG=>Qq ih 60 G _ hG
     ·exact QGJ ih hf hc hgo fun G hG=>Qq ih 60 G _ hG
     ·exact QGJ ih hf hc hgo fun G hG=>Qq ih 60 G _ hG
def QT5:Unit→Bool×AV:=fun _=>(true,.bool false true)
def QCj:FC:=Q2 (Q3 QT5)
variable {f:FuncId}
theorem QPC{C:Tab}(hC:QZ C)(d:Nat){fn:Func}(hf:Try.prog.funcs[f]? = some fn)(hb:fn.body=some (Qo fn))(hgo:Jh Try.prog f=true)(h:Qy (mkG Try.prog C) (hnd (mkG Try.prog C) d) false fn [] [] 0 = .leaf (.bool true true) []):QO Try.prog f QCj:=by
 refine QFP (QCu hC) hf hb hgo (fun G _ hG=>Qq (QCu hC) d G _ hG) ?_;rintro⟨⟩ _;rw[show(Qp.enc ((()):Unit):List AV)=[]from rfl,h];rfl
def QDd:List (Nat×Nat):=[(95,1)]
theorem QSw:Qy (mkG Try.prog (Yo Try.prog Ke QDd 12)) (hnd (mkG Try.prog (Yo Try.prog Ke QDd 12)) 100) false Try.f12 [] [] 0 = .leaf (.bool true true) []:=by kernel_rfl
theorem QQ0:QO Try.prog 12 QCj:=QPC (QGj VH QDd 12) 100 Try.func12 (by kernel_rfl) (by kernel_rfl) QSw
end Go.Proofs.Ytbpffdkemeoajaa
