/- - -/
import Derived.Test.YtekbmehgcofnkaaGreatKy
import Derived.Test.YtekbmehgcofnkaaGreatKp
set_option linter.all false
noncomputable section
open Go.Proofs.Tryz
open Go.IntKind (i64)
set_option maxRecDepth 100000
namespace Go.Proofs.YtekbmehgcofnkaaGreat
open Go.SX
def QOG:Int×Int×Unit->Bool×AV:=λ|(lo,(hi,_))=>(true,Enc.enc (⟨lo,hi⟩:Sp))
def QOA:FC:=Kk (Ko QOG)
theorem QTh(lo:Int)(hi:Int):KY (mkE prog KG) (hnd (mkE prog KG) 2) false f97 (KA.enc ((lo,hi,()):Int×Int×Unit)) [] 0=QC.leaf (AV.agg [vi lo,vi hi]) ([]):=by kernel_rfl
theorem Qes:QR prog 97 QOA:=by
 refine Kz JH 2 func97 (by kernel_rfl) (by kernel_rfl) ?_
 rintro⟨lo,hi,⟨⟩⟩ hp;rw[QTh lo hi];simp only[QOG,QC.den,AV.same,AV.sameL,and_true,true_and]at hp ⊢;simp only[Enc.enc,AV.same,AV.sameL,and_self]
def QDg:Tab:=Qa KG 97 QOA
theorem QR7:Qc QDg:=JH.add Qes
def QK3:Int×Int×Unit->Bool×AV:=λ|(lo,(hi,_))=>(true,Enc.enc (⟨1,⟨1000,1000⟩,⟨lo,hi⟩,⟨400,400⟩⟩:Edge))
def QKf:FC:=Kk (Ko QK3)
theorem QUC(lo:Int)(hi:Int):KY (mkE prog QDg) (hnd (mkE prog QDg) 2) false f95 (KA.enc ((lo,hi,()):Int×Int×Unit)) [] 0=QC.need (true) (QC.leaf (AV.agg [vj (1:Int),vj (1000:Int),vj (1000:Int),vi lo, vi hi,vj (400:Int),vj (400:Int)]) ([])):=by kernel_rfl
theorem Qah:QR prog 95 QKf:=by
 refine Kz QR7 2 func95 (by kernel_rfl) (by kernel_rfl) ?_
 rintro⟨lo,hi,⟨⟩⟩ hp;rw[QUC lo hi];simp only[QK3,QC.den,AV.same,AV.sameL,and_true,true_and]at hp ⊢;simp only[Enc.enc,AV.same,AV.sameL,and_self]
def QDF:Tab:=Qa QDg 95 QKf
theorem QJq:Qc QDF:=QR7.add Qah
def QPK:Unit->Bool×AV:=λ_=>(true,Enc.enc (⟨2,⟨1000,1000⟩,⟨515,515⟩,⟨410,410⟩⟩:Edge))
def QP8:FC:=Kk (Ko QPK)
theorem QWF :KY (mkE prog QDF) (hnd (mkE prog QDF) 2) false f96 (KA.enc (():Unit)) [] 0=QC.leaf (AV.agg [vj (2:Int),vj (1000:Int),vj (1000:Int),vj (515:Int),vj (515:Int),vj (410:Int),vj (410:Int)]) ([]):=by kernel_rfl
theorem Qcr:QR prog 96 QP8:=by
 refine Kz QJq 2 func96 (by kernel_rfl) (by kernel_rfl) ?_
 rintro⟨⟩ hp;rw[QWF];simp only[QPK,QC.den,AV.same,AV.sameL,and_true,true_and]at hp ⊢;simp only[Enc.enc,AV.same,AV.sameL,and_self]
def QDH:Tab:=Qa QDF 96 QP8
theorem QKL:Qc QDH:=QJq.add Qcr
def QRj:Edge×Edge×Edge×Edge×Unit->Bool×AV:=λ|(r,(b,(l,(a,_))))=>(true,Enc.enc (⟨a,r,b,l⟩:QV))
def QOa:FC:=Kk (Ko QRj)
theorem QTy(r:Edge)(b:Edge)(l:Edge)(a:Edge):KY (mkE prog QDH) (hnd (mkE prog QDH) 2) false f98 (KA.enc ((r,b,l,a,()):Edge×Edge×Edge×Edge×Unit)) [] 0=QC.leaf (AV.agg [vi a.kind,vi a.at_.lo,vi a.at_.hi,vi a.wide.lo,vi a.wide.hi,vi a.deep.lo,vi a.deep.hi,vi r.kind,vi r.at_.lo,vi r.at_.hi,vi r.wide.lo,vi r.wide.hi,vi r.deep.lo,vi r.deep.hi,vi b.kind,vi b.at_.lo,vi b.at_.hi,vi b.wide.lo,vi b.wide.hi,vi b.deep.lo,vi b.deep.hi,vi l.kind,vi l.at_.lo,vi l.at_.hi,vi l.wide.lo,vi l.wide.hi,vi l.deep.lo,vi l.deep.hi]) ([]):=by kernel_rfl
theorem QdW:QR prog 98 QOa:=by
 refine Kz QKL 2 func98 (by kernel_rfl) (by kernel_rfl) ?_
 rintro⟨r,b,l,a,⟨⟩⟩ hp;rw[QTy r b l a];simp only[QRj,QC.den,AV.same,AV.sameL,and_true,true_and]at hp ⊢;simp only[Enc.enc,AV.same,AV.sameL,and_self]
def qU:Tab:=Qa QDH 98 QOa
theorem QFR:Qc qU:=QKL.add QdW
def eA:Edge:=⟨1,⟨1000,1000⟩,⟨500,500⟩,⟨400,400⟩⟩
def eP:Edge:=⟨1,⟨1000,1000⟩,⟨480,490⟩,⟨400,400⟩⟩
def eH:Edge:=⟨2,⟨1000,1000⟩,⟨515,515⟩,⟨410,410⟩⟩
def Qfg:List QV:=[⟨Jd,eA,Jd,Jd⟩,⟨Jd,eA,Jd,eH⟩,⟨Jd,eP,Jd,eH⟩,⟨Jd,Jd,Jd,eH⟩]
def QYM:List QV:=[⟨Jd,eA,eA,Jd⟩,⟨Jd,Jd,eA,eH⟩,⟨eH,eP,Jd,Jd⟩,⟨eH,Jd,Jd,eH⟩]
def QJJ:AV := .agg [.int false .i64 2000,.int false .i64 20,.int false .i64 30,.int false .i64 0,.int false .i64 10,.int false .i64 4,.int false .i64 1,.bool false false,.slice true 0 0 4 (.lit 4)]
def QMZ:Nat×Blk:=(0,.rowl 70 28 (Qfg.map λp=>(Enc.enc p).cells))
def QK7:AV := .agg [.int false .i64 2000,.int false .i64 20,.int false .i64 30,.int false .i64 0,.int false .i64 10,.int false .i64 2,.int false .i64 2,.bool false true,.slice true 0 0 4 (.lit 4)]
def QNd:Nat×Blk:=(0,.rowl 70 28 (QYM.map λp=>(Enc.enc p).cells))
abbrev QPf:List AV:=
  [vj 2000,vj 20,vj 30,vj 0,vj 10,vj 4,vj 1,.bool true false,.slice true 288 0 4 (Cap.lit
  4)]
abbrev wbe:List AV:=[vj 0,vj 0,vj 0,vj 0,vj 0,vj 0,vj 0]
abbrev wbF:List AV:=[vj 2,vj 1000,vj 1000,vj 515,vj 515,vj 410]
abbrev QJC:List (Nat×Blk):=
  [(288,.rowl 70 28 [(List.append (wbe) (vj 1::.int true .i64
  1000::vj 1000::vj 500::vj 500::vj 400::vj 400::List.append (wbe) (wbe))),
  (List.append (wbe) ((vj 1::vj 1000::.int true .i64
  1000::vj 500::vj 500::vj 400::vj 400::vj 0::vj 0::vj 0::vj 0::vj 0::.int
  true .i64 0::vj 0::List.append (wbF) ([vj 410])))),(.int
  true .i64 0::vj 0::vj 0::vj 0::vj 0::vj 0::vj 0::vj 1::vj 1000::vj 1000::vj 480::vj 490::vj 400::vj 400::vj 0::vj 0::vj 0::vj 0::vj 0::.int true
  .i64 0::vj 0::List.append (wbF) ([vj 410])),(.int true
  .i64 0::List.append (wbe) (vj 0::vj 0::.int true
  .i64 0::List.append (wbe) ((vj 0::vj 0::.int true
  .i64 0::List.append (wbF) ([vj 410])))))])]
abbrev wbX:List Prop:=[(0:Int)=0,(0:Int)=0,(0:Int)=0]
abbrev j6:List Prop:=
  (wbX++[(0:Int)=0])
abbrev QIJ:List Prop:=
  (wbX++[(1:Int)=1])
abbrev HR:List Prop:=
  [(1000:Int)=1000,(1000:Int)=1000,(500:Int)=500,(500:Int)=500,(400:Int)=400,(400:Int)=400]
abbrev Wy:List Prop:=
  (wbX++wbX++wbX++[(0:Int)=0])
abbrev vN:List Prop:=
  [(1000:Int)=1000,(1000:Int)=1000,(515:Int)=515,(515:Int)=515,(410:Int)=410,(410:Int)=410]
abbrev QJr:List Prop:=
  [(1000:Int)=1000,(1000:Int)=1000,(480:Int)=480,(490:Int)=490,(400:Int)=400,(400:Int)=400]
theorem QYu :QE 8 [(.agg QPf)] (QJC) (KP 8 QJJ [QMZ])=(some ([(2000:Int)=2000,(20:Int)=20,(30:Int)=30,(0:Int)=0,(10:Int)=10,(4:Int)=4,(1:Int)=1, false=false,0=0,4=4,Cap.lit 4=Cap.lit 4]++j6++QIJ++HR++Wy++Wy++[(0:Int)=0,(1:Int)=1]++HR++j6++(wbX++[(2:Int)=2])++vN++j6++QIJ++QJr++j6++(wbX++[(2:Int)=2])++vN++Wy++Wy++[(0:Int)=0,(2:Int)=2]++vN)):=by kernel_rfl
def QDC:WF (Unit):=λ|_=>(true,QJJ,[QMZ])
def QRs:FC:=wFC QDC
theorem Qb2 :Kl (mkE prog qU) (hnd (mkE prog qU) 2) f46 (Qd.vals 0 ((()):Unit)) (Qd.blks 0 ((()):Unit)) 8 = .leaf (.agg QPf) (QJC):=by kernel_rfl
theorem Qba:JP (mkE prog qU) (Qk f46) 8 QDC (λx_=>(hnd (mkE prog qU) 2)):=by
 refine⟨?_⟩;rintro⟨⟩ hp G h1 h2;exact Qu (QN QFR) 2 G _ h1
theorem QY1:JQ (mkE prog qU) f46 8 QDC (λx_=>(hnd (mkE prog qU) 2)):=by
 refine⟨?_⟩;rintro⟨⟩ hp;refine⟨⟨rfl,by decide,rfl⟩,⟨?_⟩⟩
 rw[Qb2];simp only[QDC]at hp;exact⟨rfl,rfl,_,QYu,by repeat' first|exact trivial|rfl|refine aI ?_ ?_⟩
theorem QV3:QR prog 46 QRs:=
 Ji (QN QFR) func46 (by kernel_rfl) (by kernel_rfl) (by decide) Qba QY1
def Wt:Tab:=Qa qU 46 QRs
theorem QGl:Qc Wt:=QFR.add QV3
abbrev QL2:List AV:=
  [vi 2000,vi 20,vi 30,vi 0,vi 10,vj 2,vj 2,.bool true true,.slice true 288 0 4
  (Cap.lit 4)]
abbrev wbn:List AV:=(List.append (wbF) ([vj 410]))
abbrev QRo:List (Nat×Blk):=
  [(288,.rowl 70 28 [(List.append (wbe) ([vj 1,.int true .i64
  1000,vj 1000,vj 500,vj 500,vj 400,vj 400,vj 1,vj 1000,vj 1000,.int true .i64
  500,vj 500,vj 400,vj 400,vj 0,vj 0,vj 0,vj 0,vj 0,vj 0,.int
  true .i64 0])),(List.append (wbe) ((vj 0::vj 0::.int
  true .i64 0::vj 0::vj 0::vj 0::vj 0::vj 1::vj 1000::vj 1000::vj 500::.int true .i64
  500::vj 400::vj 400::List.append (wbF) ([.int true .i64
  410])))),(vj 2::vj 1000::vj 1000::vj 515::vj 515::vj 410::vj 410::vj 1::.int true .i64
  1000::vj 1000::vj 480::vj 490::vj 400::vj 400::List.append (wbe) (wbe)),
  (vj 2::vj 1000::vj 1000::vj 515::vj 515::vj 410::vj 410::vj 0::vj 0::.int
  true .i64 0::List.append (wbe) ((vj 0::vj 0::.int
  true .i64 0::vj 0::wbn)))])]
theorem Qd2 :QE 8 [(.agg QL2)] (QRo) (KP 8 QK7 [QNd])=(some ([(2000:Int)=2000,(20:Int)=20,(30:Int)=30,(0:Int)=0,(10:Int)=10,(2:Int)=2,(2:Int)=2,true=true,0=0,4=4,Cap.lit 4=Cap.lit 4]++j6++QIJ++HR++[(1:Int)=1]++HR++Wy++Wy++[(0:Int)=0,(1:Int)=1]++HR++[(2:Int)=2]++vN ++ [(2:Int)=2]++vN++[(1:Int)=1]++QJr++Wy++j6++[(2:Int)=2]++vN++Wy++j6++[(2:Int)=2]++vN)):=by kernel_rfl
def QEL:WF (Unit):=λ|_=>(true,QK7,[QNd])
def QLn:FC:=wFC QEL
theorem QVW :Kl (mkE prog Wt) (hnd (mkE prog Wt) 2) f47 (Qd.vals 0 ((()):Unit)) (Qd.blks 0 ((()):Unit)) 8 = .need (true) (.leaf (.agg QL2) (QRo)):=by kernel_rfl
theorem QTJ:JP (mkE prog Wt) (Qk f47) 8 QEL (λx_=>(hnd (mkE prog Wt) 2)):=by
 refine⟨?_⟩;rintro⟨⟩ hp G h1 h2;exact Qu (QN QGl) 2 G _ h1
theorem Qbb:JQ (mkE prog Wt) f47 8 QEL (λx_=>(hnd (mkE prog Wt) 2)):=by
 refine⟨?_⟩;rintro⟨⟩ hp;refine⟨⟨rfl,by decide,rfl⟩,⟨?_⟩⟩
 rw[QVW];simp only[QEL]at hp;exact QG rfl ⟨rfl,rfl,_,Qd2,by repeat' first|exact trivial|rfl|refine aI ?_ ?_⟩
theorem Qdw:QR prog 47 QLn:=
 Ji (QN QGl) func47 (by kernel_rfl) (by kernel_rfl) (by decide) QTJ Qbb
def QPh:Tab:=Qa Wt 47 QLn
theorem QSq:Qc QPh:=QGl.add Qdw
end Go.Proofs.YtekbmehgcofnkaaGreat
namespace Go.SX
open Go Go.RowKit Go.Proofs.YtekbmehgcofnkaaGreat
def QM6(rw_:Bool)(E:Env)(H:Hnd)(fn:Func):FC:=λargs nid _=>QBF rw_ E H fn args nid (Xa (AV.idsFromL 0 args) [])
variable {f:FuncId}
theorem QZl{E:Env}(hE:E.Sound){H:Hnd}{rw_:Bool}{fn:Func}{c:Code}(hf:E.P.funcs[f]? = some fn)(hb:fn.body=some c)(hgo:Jl E.P f=true)(hl:∀ G,G.rd=none->Qx E G H c):QR E.P f (QM6 rw_ E H fn):=by
 have h:=QHH (rw_:=rw_) hE hf hb hgo hl;exact⟨h.1,λargs nid all r w lk blks eff hH ha hv he hp=>h.2 args nid (Xa (AV.idsFromL 0 args) []) r w lk blks eff hH ha hv he hp⟩
def QE1(fc:FC):FC:=λargs nid _=>((fc args nid (Xa (AV.idsFromL 0 args) [])).1,λblks=>match (fc args nid (Xa (AV.idsFromL 0 args) [])).2 blks with
 | some e=>some ⟨true,e.pre,e.val.setK true,e.upd⟩
 | none=>none)
theorem QXb{P:Program}{fc:FC}(h:QR P f fc):QR P f (QE1 fc):=by
 refine⟨h.1,λargs nid all r w lk blks eff hH ha hv he hp=>?_⟩;simp only[QE1]at hv he;split at he<;>(try (cases he;done))
 rename_i e h0;simp only[qsI]at he;subst he;refine(h.2 args nid (Xa (AV.idsFromL 0 args) []) r w lk blks e hH ha hv h0 hp).mono ?_;rintro e' w' ⟨r',rfl,hpost⟩;exact⟨r',by simp only;rw[ql],hpost⟩
end Go.SX
namespace Go.Proofs.YtekbmehgcofnkaaGreat
open Go.SX
abbrev mkG(P:Program)(C:Tab):Env:=⟨P,C,jk P,false,λ_=>false,false,true,false⟩
theorem QGE{C:Tab}(hC:Qc C):(mkG prog C).Sound:={ c:=hC,m:=QA1 prog,mixed:=QBN }
def QKn:List (Nat×Nat)->Nat->Nat
 | [],_=>0
 | (g,k)::l,f=>match Nat.beq g f with
  | true=>k
  | false=>QKn l f
def Y5(P:Program)(B:Tab)(l:List (Nat×Nat)):Nat->Tab
 | 0=>λ_=>none
 | d+1=>λf=>match B f with
  | some fc=>some (QE1 fc)
  | none=>match QKn l f with
   | 0=>none
   | k=>match P.funcs[f]? with
    | none=>none
    | some fn=>match fn.body.isSome&&Jl P f with
     | false=>none
     | true=>match k with
      | 1=>some (QM6 false (mkG P (Y5 P B l d)) (hnd (mkG P (Y5 P B l d)) 60) fn)
      | 2=>some (QBF false (mkG P (Y5 P B l d)) (hnd (mkG P (Y5 P B l d)) 60) fn)
      | _=>some (QBF true (mkG P (Y5 P B l d)) (hnd (mkG P (Y5 P B l d)) 60) fn)
theorem QMs{B:Tab}(hB:Qc B)(l:List (Nat×Nat)):∀ d,Qc (Y5 prog B l d)
 | 0=>λf fc h=>by cases h
 | d+1=>λf fc h=>by
  have ih:=QGE (QMs hB l d);simp only[Y5]at h;split at h
  .rename_i fc0 h0;simp only[qsI]at h;subst h;exact QXb (hB _ _ h0)
  split at h
  .cases h
  .split at h
   .cases h
   .rename_i fn hf;split at h
    .cases h
    .rename_i hb;simp only[qbA,Option.isSome_iff_exists]at hb;obtain⟨⟨c,hc⟩,hgo⟩:=hb;split at h<;>simp only[qsI]at h<;>subst h
     .exact QZl ih hf hc hgo λG hG=>Qu ih 60 G _ hG
     .exact QHH ih hf hc hgo λG hG=>Qu ih 60 G _ hG
     .exact QHH ih hf hc hgo λG hG=>Qu ih 60 G _ hG
def QcK:Unit->Bool×AV:=λ_=>(true,.bool false true)
def QHP:FC:=Kk (Ko QcK)
variable {f:FuncId}
theorem QYZ{C:Tab}(hC:Qc C)(d:Nat){fn:Func}(hf:prog.funcs[f]? = some fn)(hb:fn.body=some (Qk fn))(hgo:Jl prog f=true)(h:KY (mkG prog C) (hnd (mkG prog C) d) false fn [] [] 0 = .leaf (.bool true true) []):QR prog f QHP:=by
 refine QPt (QGE hC) hf hb hgo (λG _ hG=>Qu (QGE hC) d G _ hG) ?_;rintro⟨⟩ _;rw[show(KA.enc ((()):Unit):List AV)=[]from rfl,h];rfl
