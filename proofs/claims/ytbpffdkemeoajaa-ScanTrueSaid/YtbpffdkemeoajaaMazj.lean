/- - -/
import Derived.Test.YtbpffdkemeoajaaMazh
import Derived.Test.YtbpffdkemeoajaaMazi
import Derived.Test.YtbpffdkemeoajaaMar
import Derived.Test.YtbpffdkemeoajaaMap
import Derived.Test.YtbpffdkemeoajaaMat
set_option maxRecDepth 100000
namespace Go.Proofs.Ytbpffdkemeoajaa
open Go.SX
theorem QK5{d:Puz}(h:d.ok=true):d.play.ok=true:=by
 rw[←QDi]at h;simp only[okR,qbA]at h;exact h.1
theorem QMD{x:QE}(h:x.d.ok=true):Ve x.d.play x.scans=(QU (Ya x) x.scans.n 0).isNone:=by
 unfold Ve
 have:JI ⟨x.d.play⟩ x.scans=Ya x:=by
  funext k;simp only[JI,Ya,QK5 h,Bool.true_and]
 rw[this]
def okQ(x:QE):Bool := !(((((!x.d.ok||decide ((x.scans.n:Int)>12))||decide ((x.hang.n:Int)>12)) || !Qg x.lost 0 9) || !Qg x.foreign 0 3))&&((QU (Ya x) x.scans.n 0).isNone&&(QU (JM x) x.hang.n 0).isNone)
theorem QXL(x:QE):okQ x=x.ok:=by
 unfold okQ QE.ok QE.sz jxO;cases h:x.d.ok with
 | false=>simp
 | true=>
  rw[QMD h,QEL]
  by_cases h1:(x.scans.n:Int)>12<;>by_cases h2:(x.hang.n:Int)>12<;>cases Qg x.lost 0 9<;>cases Qg x.foreign 0 3<;>simp_all<;>omega
def jW:WF (QE×Unit):=fun|(x,_)=>(decide (x.d.ps.n≤1000∧x.scans.n≤1000∧x.hang.n≤1000),.bool false x.ok,[])
def QKJ:FC:=wFC jW
theorem QUO(x:QE):Kc (mkS Try.prog Vu) (QBp Try.prog x) Try.f35 (QX.vals 0 ((x,()):QE×Unit)) (QX.blks 0 ((x,()):QE×Unit)) 8 = .need (decide (x.d.ps.n≤x.d.ps.n)&&true
  && decide (x.d.ps.n≤1000)) (.need (!!!x.d.ok || !!x.d.ok) (.need (!!!x.d.ok || !!x.d.ok) (.need (!!!x.d.ok || !!x.d.ok) (.need (!x.d.ok || !!x.d.ok) (.bnd (!x.d.ok||decide
  ((x.scans.n:Int)>12)) (fun(x0:Bool) => .need (!!x0 || !x0) (.need (!!x0 || !x0) (.need (!!x0 || !x0) (.need (x0 || !x0) (.bnd (x0||decide ((x.hang.n:Int)>12)) (fun(x1
  : Bool) => .need (!!x1 || !x1) (.need (!!x1||true && !x1) (.need (!!x1 || !x1) (.need (x1 || !x1) (.bnd (x1 || !Qg x.lost (0:Int) (9:Int)) (fun(x2:Bool) => .need (!!x2
  || !x2) (.need (!!x2||true && !x2) (.need (!!x2 || !x2) (.need (x2 || !x2) (.bnd (x2 || !Qg x.foreign (0:Int) (3:Int)) (fun(x3:Bool) => .br (x3) (.leaf (.bool true
  false) ([])) (.ask (0=0) (.ask (0=0) (.ask ((0:Int)=0) (.ask (x.d.play.length=x.d.play.length) (.ask (x.d.play.slack=x.d.play.slack) (.ask (x.d.play.loose =
  x.d.play.loose) (.ask (x.d.play.damp.lo=x.d.play.damp.lo) (.ask (x.d.play.damp.hi=x.d.play.damp.hi) (.ask (x.d.wide=x.d.wide) (.ask (x.d.high=x.d.high) (.ask (x.d.turn =
  x.d.turn) (.ask (0=0) (.ask (x.d.ps.n=x.d.ps.n) (.ask (cO=cO) (.ask (0=0) (.ask (x.scans.n=x.scans.n) (.ask (cO=cO) (.ask (0=0) (.ask (x.hang.n
  = x.hang.n) (.ask (cO=cO) (.ask (x.lost=x.lost) (.ask (x.foreign=x.foreign) (.ask (x.d.ps.n≤x.d.ps.n) (.ask (QC 28 x.d.ps.n (fun i=>QA.enc (x.d.ps.get
  i)) fun i=>QA.enc (x.d.ps.get i)) (.ask (x.scans.n≤x.scans.n) (.ask (QC 28 x.scans.n (fun i=>QA.enc (x.scans.get i)) fun i=>QA.enc (x.scans.get i)) (.ask (x.hang.n
  ≤ x.hang.n) (.ask (QC 4 x.hang.n (fun i=>QA.enc (x.hang.get i)) fun i=>QA.enc (x.hang.get i)) (.both (.asm ((QU (Ya x) x.scans.n 0).isNone=false) (.all (fun(g4
  : Nat→Value) => .leaf (.bool false false) ([])))) (.asm ((QU (Ya x) x.scans.n 0).isNone=true) (.all (fun(g5:Nat→Value) => .ask (0=0) (.ask (0=0) (.ask ((0:Int)
  = 0) (.ask (x.d.play.length=x.d.play.length) (.ask (x.d.play.slack=x.d.play.slack) (.ask (x.d.play.loose=x.d.play.loose) (.ask (x.d.play.damp.lo=x.d.play.damp.lo) (.ask
  (x.d.play.damp.hi=x.d.play.damp.hi) (.ask (x.d.wide=x.d.wide) (.ask (x.d.high=x.d.high) (.ask (x.d.turn=x.d.turn) (.ask (0=0) (.ask (x.d.ps.n=x.d.ps.n) (.ask (cO =
  cO) (.ask (0=0) (.ask (x.scans.n=x.scans.n) (.ask (cO=cO) (.ask (0=0) (.ask (x.hang.n=x.hang.n) (.ask (cO=cO) (.ask (x.lost=x.lost) (.ask
  (x.foreign=x.foreign) (.ask (x.d.ps.n≤x.d.ps.n) (.ask (QC 28 x.d.ps.n (fun i=>QA.enc (x.d.ps.get i)) fun i=>QA.enc (x.d.ps.get i)) (.ask (x.scans.n≤x.scans.n)
  (.ask (QC 28 x.scans.n (fun i=>QA.enc (x.scans.get i)) fun i=>QA.enc (x.scans.get i)) (.ask (x.hang.n≤x.hang.n) (.ask (QC 4 x.hang.n (fun i=>QA.enc (x.hang.get
  i)) fun i=>QA.enc (x.hang.get i)) (.both (.asm ((QU (JM x) x.hang.n 0).isNone=false) (.all (fun(g6:Nat→Value) => .leaf (.bool false false) ([])))) (.asm ((QU
  (JM x) x.hang.n 0).isNone=true) (.all (fun(g7:Nat→Value) => .leaf (.bool true true) ([]))))))))))))))))))))))))))))))))))))))))))))))))))))))))))))))))))))))))))))))))))))):=by kernel_rfl
theorem QUW:Jr (mkS Try.prog Vu) (Qr Try.f35) 8 jW (fun x_=>(QBp Try.prog x_.1)):=by
 refine⟨?_⟩;rintro⟨x,⟨⟩⟩ hp G h1 h2;exact QV7 x (qdt hp).2.1 (qdt hp).2.2 G h1 h2
theorem QaX:Jo (mkS Try.prog Vu) Try.f35 8 jW (fun x_=>(QBp Try.prog x_.1)):=by
 refine⟨?_⟩;rintro⟨x,⟨⟩⟩ hp;refine⟨⟨rfl,by simp[jW],rfl⟩,⟨?_⟩⟩
 rw[QUO x];simp only[jW]at hp;obtain⟨hn,_,_⟩:=qdt hp;have end_:∀{z:Bool} {b:Bool},okQ x=b→(QD.leaf (AV.bool z b) []).den (XG 8 (jW (x,())).2.1 (jW (x,())).2.2):=fun{z b} h=>JE (show b=x.ok by rw[←QXL];exact h.symm) rfl
 refine QF (by simp;omega) ?_
 unfold okQ at end_;generalize x.d.ok=b0 at end_ ⊢;generalize decide ((x.scans.n:Int)>12)=b1 at end_ ⊢;generalize decide ((x.hang.n:Int)>12)=b2 at end_ ⊢;generalize Qg x.lost 0 9=b3 at end_ ⊢;generalize Qg x.foreign 0 3=b4 at end_ ⊢
 repeat' first|refine QF rfl ?_|refine QF (by grind) ?_|refine KL fun z hz => ?_
 refine QI (fun q=>end_ (by grind)) (fun q => ?_)
 repeat' first|refine Qb (show _=_ by with_reducible rfl) ?_|refine Qb (show _≤_ from qlr _) ?_|refine Qb (show QC _ _ _ _ from qRr) ?_
 refine Yu (KO fun h=>KK fun g=>end_ (by grind)) (KO fun h=>KK fun g => ?_)
 repeat' first|refine Qb (show _=_ by with_reducible rfl) ?_|refine Qb (show _≤_ from qlr _) ?_|refine Qb (show QC _ _ _ _ from qRr) ?_
 refine Yu (KO fun h2=>KK fun g=>end_ (by grind)) (KO fun h2=>KK fun g=>end_ (by grind))
theorem QcT:QQ Try.prog 35 QKJ:=
 Jx (XK jV) Try.func35 (by kernel_rfl) (by kernel_rfl) (by decide) QUW QaX
def WZ:Tab:=Qe Vu 35 QKJ
theorem QGg:Qc WZ:=jV.add QcT
def QFb(x:QE)(c s:Int):Bool:=decide ((x.d.ps.n:Int)>14)||(decide ((x.scans.n:Int)>18)||(decide ((x.hang.n:Int)>18)||(x.ok&&(decide ((x.d.ps.n:Int)>c)||decide ((x.scans.n:Int)>s)))))
def qe:WF (QE×Int×Int×Unit):=fun|(x,(c,(s,_)))=>(true,.bool false (QFb x c s),[])
def QRH:FC:=wFC qe
theorem QWj(x:QE)(c:Int)(s:Int):Kc (mkS Try.prog WZ) (hnd (mkS Try.prog WZ) 1) Try.f34 (QX.vals 0 ((x,c,s,()):QE×Int×Int×Unit)) (QX.blks 0 ((x,c,s,()):QE×Int×Int×Unit))
  8 = .need (!!decide ((x.d.ps.n:Int)>14) || !decide ((x.d.ps.n:Int)>14)) (.need (!!decide ((x.d.ps.n:Int)>14) || !decide ((x.d.ps.n:Int)>14)) (.need (!!decide
  ((x.d.ps.n:Int)>14) || !decide ((x.d.ps.n:Int)>14)) (.need (decide ((x.d.ps.n:Int)>14) || !decide ((x.d.ps.n:Int)>14)) (.bnd (decide ((x.d.ps.n:Int)>14) ||
  decide ((x.scans.n:Int)>18)) (fun(x0:Bool) => .need (!!x0 || !x0) (.need (!!x0 || !x0) (.need (!!x0 || !x0) (.need (x0 || !x0) (.bnd (x0||decide ((x.hang.n:Int)>18))
  (fun(x1:Bool) => .need (!!x1||decide (x.d.ps.n≤x.d.ps.n)&&(decide (x.scans.n≤x.scans.n)&&(decide (x.hang.n≤x.hang.n)&&true))&&decide (x.d.ps.n≤1000∧x.scans.n
  ≤ 1000∧x.hang.n≤1000) && !x1) (.need (!!x1 || !x1) (.need (!(!x1&&x.ok) || !x1&&x.ok) (.need (!(!x1&&x.ok) || !x1&&x.ok) (.need (!(!x1&&x.ok) || !x1&&x.ok) (.need
  (!(!x1&&x.ok) || !x1&&x.ok&&(!x1&&x.ok)) (.need (!(!x1&&x.ok) || !x1&&x.ok) (.need (!(!x1&&x.ok && !decide ((x.d.ps.n:Int)>c)) || !x1&&x.ok && !decide ((x.d.ps.n
  : Int)>c)) (.need (!(!x1&&x.ok && !decide ((x.d.ps.n:Int)>c)) || !x1&&x.ok && !decide ((x.d.ps.n:Int)>c)) (.need (!(!x1&&x.ok && !decide ((x.d.ps.n:Int)>c)) ||
  !x1&&x.ok && !decide ((x.d.ps.n:Int)>c)&&(!x1&&x.ok && !decide ((x.d.ps.n:Int)>c))) (.need (!(!x1&&x.ok) || !x1&&x.ok&&(decide ((x.d.ps.n:Int)>c) || !x1 &&
  x.ok && !decide ((x.d.ps.n:Int)>c))) (.bnd (decide ((x.d.ps.n:Int)>c)||decide ((x.scans.n:Int)>s)) (fun(x2:Bool) => .need (!!x1 || !x1&&(!x.ok || !x1&&x.ok))
  (.bnd (x.ok&&x2) (fun(x3:Bool) => .need (x1 || !x1) (.bnd (x1||x3) (fun(x4:Bool) => .leaf (.bool false x4) ([]))))))))))))))))))))))))))):=by kernel_rfl
theorem Qb4:Jr (mkS Try.prog WZ) (Qr Try.f34) 8 qe (fun x_=>(hnd (mkS Try.prog WZ) 1)):=by
 refine⟨?_⟩;rintro⟨x,⟨c,⟨s,⟨⟩⟩⟩⟩ hp G h1 h2;exact Qz (XK QGg) 1 G _ h1
theorem Qbg:Jo (mkS Try.prog WZ) Try.f34 8 qe (fun x_=>(hnd (mkS Try.prog WZ) 1)):=by
 refine⟨?_⟩;rintro⟨x,⟨c,⟨s,⟨⟩⟩⟩⟩ hp;refine⟨⟨rfl,by simp[qe],rfl⟩,⟨?_⟩⟩
 rw[QWj x c s];simp only[qe]at hp;have end_:∀{z:Bool} {b:Bool},QFb x c s=b→(QD.leaf (AV.bool z b) []).den (XG 8 (qe (x,c,s,())).2.1 (qe (x,c,s,())).2.2):=fun h=>JE h.symm rfl
 have sm:decide ((x.d.ps.n:Int)>14)=false→decide ((x.scans.n:Int)>18)=false→decide ((x.hang.n:Int)>18)=false→(decide (x.d.ps.n≤x.d.ps.n)&&(decide (x.scans.n≤x.scans.n)&&(decide (x.hang.n≤x.hang.n)&&true))&&decide (x.d.ps.n≤(1000:Nat)∧x.scans.n≤(1000:Nat)∧x.hang.n≤(1000:Nat)))=true:=by
  intro h1 h2 h3;simp only[decide_eq_false_iff_not]at h1 h2 h3;simp;omega
 unfold QFb at end_;generalize (decide (x.d.ps.n≤x.d.ps.n)&&(decide (x.scans.n≤x.scans.n)&&(decide (x.hang.n≤x.hang.n)&&true))&&decide (x.d.ps.n≤(1000:Nat)∧x.scans.n≤(1000:Nat)∧x.hang.n≤(1000:Nat)))=w at sm ⊢;generalize decide ((x.d.ps.n:Int)>14)=b0 at sm end_ ⊢;generalize decide ((x.scans.n:Int)>18)=b1 at sm end_ ⊢;generalize decide ((x.hang.n:Int)>18)=b2 at sm end_ ⊢;generalize decide ((x.d.ps.n:Int)>c)=b3 at end_ ⊢;generalize decide ((x.scans.n:Int)>s)=b4 at end_ ⊢;generalize x.ok=b5 at end_ ⊢
 repeat' first|refine QF rfl ?_|refine QF (by clear end_;grind) ?_|refine KL fun z hz => ?_
 refine end_ ?_;clear end_ sm;subst_vars;cases b0<;>cases b1<;>cases b2<;>cases b3<;>cases b4<;>cases b5<;>rfl
theorem QUN:QQ Try.prog 34 QRH:=
 Jx (XK QGg) Try.func34 (by kernel_rfl) (by kernel_rfl) (by decide) Qb4 Qbg
def ZI:Tab:=Qe WZ 34 QRH
theorem jq:Qc ZI:=QGg.add QUN
end Go.Proofs.Ytbpffdkemeoajaa
namespace Go.SX
open Go Go.RowKit Go.Proofs.Ytbpffdkemeoajaa
def QKI(rw_:Bool)(E:Env)(H:Hnd)(fn:Func):FC:=fun args nid _=>vU rw_ E H fn args nid (Xi (AV.idsFromL 0 args) [])
variable {f:FuncId}
theorem Qbc{E:Env}(hE:E.Sound){H:Hnd}{rw_:Bool}{fn:Func}{c:Code}(hf:E.P.funcs[f]? = some fn)(hb:fn.body=some c)(hgo:J3 E.P f=true)(hl:∀ G,G.rd=none→KH E G H c):QQ E.P f (QKI rw_ E H fn):=by
 have h:=QDN (rw_:=rw_) hE hf hb hgo hl;exact⟨h.1,fun args nid all r w lk blks eff hH ha hv he hp=>h.2 args nid (Xi (AV.idsFromL 0 args) []) r w lk blks eff hH ha hv he hp⟩
def QHK(fc:FC):FC:=fun args nid _=>((fc args nid (Xi (AV.idsFromL 0 args) [])).1,fun blks=>match (fc args nid (Xi (AV.idsFromL 0 args) [])).2 blks with
 | some e=>some ⟨true,e.pre,e.val.setK true,e.upd⟩
 | none=>none)
theorem Qa7{P:Program}{fc:FC}(h:QQ P f fc):QQ P f (QHK fc):=by
 refine⟨h.1,fun args nid all r w lk blks eff hH ha hv he hp => ?_⟩;simp only[QHK]at hv he;split at he<;>(try (cases he;done))
 rename_i e h0;simp only[qsI]at he;subst he;refine(h.2 args nid (Xi (AV.idsFromL 0 args) []) r w lk blks e hH ha hv h0 hp).mono ?_;rintro e' w' ⟨r',rfl,hpost⟩;exact⟨r',by simp only;rw[qL],hpost⟩
end Go.SX
namespace Go.Proofs.Ytbpffdkemeoajaa
open Go.SX
abbrev mkG(P:Program)(C:Tab):Env:=⟨P,C,qE P,false,fun _=>false,false,true,false⟩
theorem QG4{C:Tab}(hC:Qc C):(mkG Try.prog C).Sound:={ c:=hC,m:=vu Try.prog,mixed:=ju }
def QLN:List (Nat×Nat)→Nat→Nat
 | [],_=>0
 | (g,k)::l,f=>match Nat.beq g f with
  | true=>k
  | false=>QLN l f
def ZE(P:Program)(B:Tab)(l:List (Nat×Nat)):Nat→Tab
 | 0=>fun _=>none
 | d+1=>fun f=>match B f with
  | some fc=>some (QHK fc)
  | none=>match QLN l f with
   | 0=>none
   | k=>match P.funcs[f]? with
    | none=>none
    | some fn=>match fn.body.isSome&&J3 P f with
     | false=>none
     | true=>match k with
      | 1=>some (QKI false (mkG P (ZE P B l d)) (hnd (mkG P (ZE P B l d)) 60) fn)
      | 2=>some (vU false (mkG P (ZE P B l d)) (hnd (mkG P (ZE P B l d)) 60) fn)
      | _=>some (vU true (mkG P (ZE P B l d)) (hnd (mkG P (ZE P B l d)) 60) fn)
theorem QMP{B:Tab}(hB:Qc B)(l:List (Nat×Nat)):∀ d,Qc (ZE Try.prog B l d)
 | 0=>fun f fc h=>by cases h
 | d+1=>fun f fc h=>by
  have ih:=QG4 (QMP hB l d);simp only[ZE]at h;split at h
  ·rename_i fc0 h0;simp only[qsI]at h;subst h;exact Qa7 (hB _ _ h0)
  split at h
  ·cases h
  ·split at h
   ·cases h
   ·rename_i fn hf;split at h
    ·cases h
    ·rename_i hb;simp only[qbA,Option.isSome_iff_exists]at hb;obtain⟨⟨c,hc⟩,hgo⟩:=hb;split at h<;>simp only[qsI]at h<;>subst h
     ·exact Qbc ih hf hc hgo fun G hG=>Qz ih 60 G _ hG
     ·exact QDN ih hf hc hgo fun G hG=>Qz ih 60 G _ hG
     ·exact QDN ih hf hc hgo fun G hG=>Qz ih 60 G _ hG
def QRm:Unit→Bool×AV:=fun _=>(true,.bool false true)
def QFc:FC:=KD (KE QRm)
variable {f:FuncId}
theorem QSJ{C:Tab}(hC:Qc C)(d:Nat){fn:Func}(hf:Try.prog.funcs[f]? = some fn)(hb:fn.body=some (Qr fn))(hgo:J3 Try.prog f=true)(h:Q8 (mkG Try.prog C) (hnd (mkG Try.prog C) d) false fn [] [] 0 = .leaf (.bool true true) []):QQ Try.prog f QFc:=by
 refine QF8 (QG4 hC) hf hb hgo (fun G _ hG=>Qz (QG4 hC) d G _ hG) ?_;rintro⟨⟩ _;rw[show(Qt.enc ((()):Unit):List AV)=[]from rfl,h];rfl
def QED:List (Nat×Nat):=[(95,1)]
theorem QXf:Q8 (mkG Try.prog (ZE Try.prog XU QED 12)) (hnd (mkG Try.prog (ZE Try.prog XU QED 12)) 100) false Try.f12 [] [] 0 = .leaf (.bool true true) []:=by kernel_rfl
theorem QdU:QQ Try.prog 12 QFc:=QSJ (QMP qG QED 12) 100 Try.func12 (by kernel_rfl) (by kernel_rfl) QXf
end Go.Proofs.Ytbpffdkemeoajaa
