/- - -/
import Derived.Test.YtekbmehgcofnkaaGreatVy
noncomputable section
open Go.Proofs.Tryz
open Go.IntKind (i64)
set_option maxRecDepth 100000
namespace Go.Proofs.YtekbmehgcofnkaaGreat
open Go.SX
def QN5:Int×Int×Unit->Bool×AV:=λ|(lo,(hi,_))=>(true,Enc.enc (⟨lo,hi⟩:Sp))
def QL5:FC:=Kj (Ko QN5)
theorem Qfd(lo:Int)(hi:Int):KY (mkE prog KW) (hnd (mkE prog KW) 2) false f97 (KL.enc ((lo,hi,()):Int×Int×Unit)) [] 0=QC.leaf (AV.agg [vi lo,vi hi]) ([]):=by kernel_rfl
theorem Qb2:QS prog 97 QL5:=by
 refine K2 Jf 2 func97 (by kernel_rfl) (by kernel_rfl) ?_
 rintro⟨lo,hi,⟨⟩⟩ hp;rw[Qfd lo hi];simp only[QN5,QC.den,AV.same,AV.sameL,and_true,true_and]at hp ⊢;simp only[Enc.enc,AV.same,AV.sameL,and_self]
def QDM:Tab:=Qc KW 97 QL5
theorem QOh:Qf QDM:=Jf.add Qb2
def QNJ:Int×Int×Unit->Bool×AV:=λ|(lo,(hi,_))=>(true,Enc.enc (⟨1,⟨1000,1000⟩,⟨lo,hi⟩,⟨400,400⟩⟩:Edge))
def QRS:FC:=Kj (Ko QNJ)
theorem Qfj(lo:Int)(hi:Int):KY (mkE prog QDM) (hnd (mkE prog QDM) 2) false f95 (KL.enc ((lo,hi,()):Int×Int×Unit)) [] 0=QC.need (true) (QC.leaf (AV.agg [vj (1:Int),vj (1000:Int),vj (1000:Int),vi lo, vi hi,vj (400:Int),vj (400:Int)]) ([])):=by kernel_rfl
theorem QlN:QS prog 95 QRS:=by
 refine K2 QOh 2 func95 (by kernel_rfl) (by kernel_rfl) ?_
 rintro⟨lo,hi,⟨⟩⟩ hp;rw[Qfj lo hi];simp only[QNJ,QC.den,AV.same,AV.sameL,and_true,true_and]at hp ⊢;simp only[Enc.enc,AV.same,AV.sameL,and_self]
def QDU:Tab:=Qc QDM 95 QRS
theorem QLs:Qf QDU:=QOh.add QlN
def QS5:Unit->Bool×AV:=λ_=>(true,Enc.enc (⟨2,⟨1000,1000⟩,⟨515,515⟩,⟨410,410⟩⟩:Edge))
def QPF:FC:=Kj (Ko QS5)
theorem QXR :KY (mkE prog QDU) (hnd (mkE prog QDU) 2) false f96 (KL.enc (():Unit)) [] 0=QC.leaf (AV.agg [vj (2:Int),vj (1000:Int),vj (1000:Int),vj (515:Int),vj (515:Int),vj (410:Int),vj (410:Int)]) ([]):=by kernel_rfl
theorem Qgz:QS prog 96 QPF:=by
 refine K2 QLs 2 func96 (by kernel_rfl) (by kernel_rfl) ?_
 rintro⟨⟩ hp;rw[QXR];simp only[QS5,QC.den,AV.same,AV.sameL,and_true,true_and]at hp ⊢;simp only[Enc.enc,AV.same,AV.sameL,and_self]
def QGt:Tab:=Qc QDU 96 QPF
theorem QRF:Qf QGt:=QLs.add Qgz
def QS6:Edge×Edge×Edge×Edge×Unit->Bool×AV:=λ|(r,(b,(l,(a,_))))=>(true,Enc.enc (⟨a,r,b,l⟩:Qb))
def QNa:FC:=Kj (Ko QS6)
theorem Qkl(r:Edge)(b:Edge)(l:Edge)(a:Edge):KY (mkE prog QGt) (hnd (mkE prog QGt) 2) false f98 (KL.enc ((r,b,l,a,()):Edge×Edge×Edge×Edge×Unit)) [] 0=QC.leaf (AV.agg [vi a.kind,vi a.at_.lo,vi a.at_.hi,vi a.wide.lo,vi a.wide.hi,vi a.deep.lo,vi a.deep.hi,vi r.kind,vi r.at_.lo,vi r.at_.hi,vi r.wide.lo,vi r.wide.hi,vi r.deep.lo,vi r.deep.hi,vi b.kind,vi b.at_.lo,vi b.at_.hi,vi b.wide.lo,vi b.wide.hi,vi b.deep.lo,vi b.deep.hi,vi l.kind,vi l.at_.lo,vi l.at_.hi,vi l.wide.lo,vi l.wide.hi,vi l.deep.lo,vi l.deep.hi]) ([]):=by kernel_rfl
theorem Qeq:QS prog 98 QNa:=by
 refine K2 QRF 2 func98 (by kernel_rfl) (by kernel_rfl) ?_
 rintro⟨r,b,l,a,⟨⟩⟩ hp;rw[Qkl r b l a];simp only[QS6,QC.den,AV.same,AV.sameL,and_true,true_and]at hp ⊢;simp only[Enc.enc,AV.same,AV.sameL,and_self]
def qS:Tab:=Qc QGt 98 QNa
theorem QHd:Qf qS:=QRF.add Qeq
def eA:Edge:=⟨1,⟨1000,1000⟩,⟨500,500⟩,⟨400,400⟩⟩
def eP:Edge:=⟨1,⟨1000,1000⟩,⟨480,490⟩,⟨400,400⟩⟩
def eH:Edge:=⟨2,⟨1000,1000⟩,⟨515,515⟩,⟨410,410⟩⟩
def QZn:List Qb:=[⟨J1,eA,J1,J1⟩,⟨J1,eA,J1,eH⟩,⟨J1,eP,J1,eH⟩,⟨J1,J1,J1,eH⟩]
def Qg4:List Qb:=[⟨J1,eA,eA,J1⟩,⟨J1,J1,eA,eH⟩,⟨eH,eP,J1,J1⟩,⟨eH,J1,J1,eH⟩]
def QN3:AV := .agg [.int false .i64 2000,.int false .i64 20,.int false .i64 30,.int false .i64 0,.int false .i64 10,.int false .i64 4,.int false .i64 1,.bool false false,.slice true 0 0 4 (.lit 4)]
def QUN:Nat×Blk:=(0,.rowl 70 28 (QZn.map λp=>(Enc.enc p).cells))
def QUF:AV := .agg [.int false .i64 2000,.int false .i64 20,.int false .i64 30,.int false .i64 0,.int false .i64 10,.int false .i64 2,.int false .i64 2,.bool false true,.slice true 0 0 4 (.lit 4)]
def QPi:Nat×Blk:=(0,.rowl 70 28 (Qg4.map λp=>(Enc.enc p).cells))
abbrev QUR:List AV:=[vj 2000,vj 20,vj 30,vj 0,vj 10,vj 4,vj 1,.bool true false,.slice true 288 0 4 (Cap.lit 4)]
abbrev wbe:List AV:=[vj 0,vj 0,vj 0,vj 0,vj 0,vj 0,vj 0]
abbrev wbH:List AV:=[vj 2,vj 1000,vj 1000,vj 515,vj 515,vj 410]
abbrev QO8:List (Nat×Blk):=[(288,.rowl 70 28 [(List.append (wbe) (vj 1::.int true .i64 1000::vj 1000::vj 500::vj 500::vj 400::vj 400::List.append (wbe) (wbe))),(List.append (wbe) ((vj 1::vj 1000::.int true .i64 1000::vj 500::vj 500::vj 400::vj 400::vj 0::vj 0::vj 0::vj 0::vj 0::.int true .i64 0::vj 0::List.append (wbH) ([vj 410])))),(.int true .i64 0::vj 0::vj 0::vj 0::vj 0::vj 0::vj 0::vj 1::vj 1000::vj 1000::vj 480::vj 490::vj 400::vj 400::vj 0::vj 0::vj 0::vj 0::vj 0::.int true .i64 0::vj 0::List.append (wbH) ([vj 410])),(.int true .i64 0::List.append (wbe) (vj 0::vj 0::.int true .i64 0::List.append (wbe) ((vj 0::vj 0::.int true .i64 0::List.append (wbH) ([vj 410])))))])]
abbrev wbY:List Prop:=[(0:Int)=0,(0:Int)=0,(0:Int)=0]
abbrev j9:List Prop:=(wbY++[(0:Int)=0])
abbrev QIR:List Prop:=(wbY++[(1:Int)=1])
abbrev QBY:List Prop:=[(1000:Int)=1000,(1000:Int)=1000,(500:Int)=500,(500:Int)=500,(400:Int)=400,(400:Int)=400]
abbrev qD:List Prop:=(wbY++wbY++wbY++[(0:Int)=0])
abbrev zo:List Prop:=[(1000:Int)=1000,(1000:Int)=1000,(515:Int)=515,(515:Int)=515,(410:Int)=410,(410:Int)=410]
abbrev QVi:List Prop:=[(1000:Int)=1000,(1000:Int)=1000,(480:Int)=480,(490:Int)=490,(400:Int)=400,(400:Int)=400]
theorem QkE :QF 8 [(.agg QUR)] (QO8) (Kk 8 QN3 [QUN])=(some ([(2000:Int)=2000,(20:Int)=20,(30:Int)=30,(0:Int)=0,(10:Int)=10,(4:Int)=4,(1:Int)=1, false=false,0=0,4=4,Cap.lit 4=Cap.lit 4]++j9++QIR++QBY++qD++qD++[(0:Int)=0,(1:Int)=1]++QBY++j9++(wbY++[(2:Int)=2])++zo++j9++QIR++QVi++j9++(wbY++[(2:Int)=2])++zo++qD++qD++[(0:Int)=0,(2:Int)=2]++zo)):=by kernel_rfl
def QFq:WF (Unit):=λ|_=>(true,QN3,[QUN])
def QR7:FC:=wFC QFq
theorem Qep :Kg (mkE prog qS) (hnd (mkE prog qS) 2) f46 (QZ.vals 0 ((()):Unit)) (QZ.blks 0 ((()):Unit)) 8 = .leaf (.agg QUR) (QO8):=by kernel_rfl
theorem QXn:JL (mkE prog qS) (Qn f46) 8 QFq (λx_=>(hnd (mkE prog qS) 2)):=by
 refine⟨?_⟩;rintro⟨⟩ hp G h1 h2;exact Qz (QP QHd) 2 G _ h1
theorem Qi6:JH (mkE prog qS) f46 8 QFq (λx_=>(hnd (mkE prog qS) 2)):=by
 refine⟨?_⟩;rintro⟨⟩ hp;refine⟨⟨rfl,by decide,rfl⟩,⟨?_⟩⟩
 rw[Qep];simp only[QFq]at hp;exact⟨rfl,rfl,_,QkE,by repeat' first|exact trivial|rfl|refine aI ?_ ?_⟩
theorem QbY:QS prog 46 QR7:=
 JY (QP QHd) func46 (by kernel_rfl) (by kernel_rfl) (by decide) QXn Qi6
def qv:Tab:=Qc qS 46 QR7
theorem QHH:Qf qv:=QHd.add QbY
abbrev QVT:List AV:=[vi 2000,vi 20,vi 30,vi 0,vi 10,vj 2,vj 2,.bool true true,.slice true 288 0 4 (Cap.lit 4)]
abbrev wbn:List AV:=(List.append (wbH) ([vj 410]))
abbrev QUM:List (Nat×Blk):=[(288,.rowl 70 28 [(List.append (wbe) ([vj 1,.int true .i64 1000,vj 1000,vj 500,vj 500,vj 400,vj 400,vj 1,vj 1000,vj 1000,.int true .i64 500,vj 500,vj 400,vj 400,vj 0,vj 0,vj 0,vj 0,vj 0,vj 0,.int true .i64 0])),(List.append (wbe) ((vj 0::vj 0::.int true .i64 0::vj 0::vj 0::vj 0::vj 0::vj 1::vj 1000::vj 1000::vj 500::.int true .i64 500::vj 400::vj 400::List.append (wbH) ([.int true .i64 410])))),(vj 2::vj 1000::vj 1000::vj 515::vj 515::vj 410::vj 410::vj 1::.int true .i64 1000::vj 1000::vj 480::vj 490::vj 400::vj 400::List.append (wbe) (wbe)),(vj 2::vj 1000::vj 1000::vj 515::vj 515::vj 410::vj 410::vj 0::vj 0::.int true .i64 0::List.append (wbe) ((vj 0::vj 0::.int true .i64 0::vj 0::wbn)))])]
theorem QZA :QF 8 [(.agg QVT)] (QUM) (Kk 8 QUF [QPi])=(some ([(2000:Int)=2000,(20:Int)=20,(30:Int)=30,(0:Int)=0,(10:Int)=10,(2:Int)=2,(2:Int)=2,true=true,0=0,4=4,Cap.lit 4=Cap.lit 4]++j9++QIR++QBY++[(1:Int)=1]++QBY++qD++qD++[(0:Int)=0,(1:Int)=1]++QBY++[(2:Int)=2]++zo ++ [(2:Int)=2]++zo++[(1:Int)=1]++QVi++qD++j9++[(2:Int)=2]++zo++qD++j9++[(2:Int)=2]++zo)):=by kernel_rfl
def QFF:WF (Unit):=λ|_=>(true,QUF,[QPi])
def QPX:FC:=wFC QFF
theorem QlP :Kg (mkE prog qv) (hnd (mkE prog qv) 2) f47 (QZ.vals 0 ((()):Unit)) (QZ.blks 0 ((()):Unit)) 8 = .need (true) (.leaf (.agg QVT) (QUM)):=by kernel_rfl
theorem Qa3:JL (mkE prog qv) (Qn f47) 8 QFF (λx_=>(hnd (mkE prog qv) 2)):=by
 refine⟨?_⟩;rintro⟨⟩ hp G h1 h2;exact Qz (QP QHH) 2 G _ h1
theorem Qj8:JH (mkE prog qv) f47 8 QFF (λx_=>(hnd (mkE prog qv) 2)):=by
 refine⟨?_⟩;rintro⟨⟩ hp;refine⟨⟨rfl,by decide,rfl⟩,⟨?_⟩⟩
 rw[QlP];simp only[QFF]at hp;exact QG rfl ⟨rfl,rfl,_,QZA,by repeat' first|exact trivial|rfl|refine aI ?_ ?_⟩
theorem Qbt:QS prog 47 QPX:=
 JY (QP QHH) func47 (by kernel_rfl) (by kernel_rfl) (by decide) Qa3 Qj8
def QUC:Tab:=Qc qv 47 QPX
theorem QYi:Qf QUC:=QHH.add Qbt
end Go.Proofs.YtekbmehgcofnkaaGreat
namespace Go.SX
open Go Go.RowKit Go.Proofs.YtekbmehgcofnkaaGreat
def QTM(rw_:Bool)(E:Env)(H:Hnd)(fn:Func):FC:=λargs nid _=>QCI rw_ E H fn args nid (Xn (AV.idsFromL 0 args) [])
variable {f:FuncId}
theorem Qlb{E:Env}(hE:E.Sound){H:Hnd}{rw_:Bool}{fn:Func}{c:Code}(hf:E.P.funcs[f]? = some fn)(hb:fn.body=some c)(hgo:J8 E.P f=true)(hl:∀ G,G.rd=none->Q0 E G H c):QS E.P f (QTM rw_ E H fn):=by
 have h:=QIU (rw_:=rw_) hE hf hb hgo hl;exact⟨h.1,λargs nid all r w lk blks eff hH ha hv he hp=>h.2 args nid (Xn (AV.idsFromL 0 args) []) r w lk blks eff hH ha hv he hp⟩
def QHo(fc:FC):FC:=λargs nid _=>((fc args nid (Xn (AV.idsFromL 0 args) [])).1,λblks=>match (fc args nid (Xn (AV.idsFromL 0 args) [])).2 blks with
 | some e=>some ⟨true,e.pre,e.val.setK true,e.upd⟩
 | none=>none)
theorem Qfi{P:Program}{fc:FC}(h:QS P f fc):QS P f (QHo fc):=by
 refine⟨h.1,λargs nid all r w lk blks eff hH ha hv he hp=>?_⟩;simp only[QHo]at hv he;split at he<;>(try (cases he;done))
 rename_i e h0;simp only[qsI]at he;subst he;refine(h.2 args nid (Xn (AV.idsFromL 0 args) []) r w lk blks e hH ha hv h0 hp).mono ?_;rintro e' w' ⟨r',rfl,hpost⟩;exact⟨r',by simp only;rw[vO],hpost⟩
end Go.SX
namespace Go.Proofs.YtekbmehgcofnkaaGreat
open Go.SX
abbrev mkG(P:Program)(C:Tab):Env:=⟨P,C,vE P,false,λ_=>false,false,true,false⟩
theorem QHQ{C:Tab}(hC:Qf C):(mkG prog C).Sound:={ c:=hC,m:=QCL prog,mixed:=QA8 }
def QTj:List (Nat×Nat)->Nat->Nat
 | [],_=>0
 | (g,k)::l,f=>match Nat.beq g f with
  | true=>k
  | false=>QTj l f
def Zg(P:Program)(B:Tab)(l:List (Nat×Nat)):Nat->Tab
 | 0=>λ_=>none
 | d+1=>λf=>match B f with
  | some fc=>some (QHo fc)
  | none=>match QTj l f with
   | 0=>none
   | k=>match P.funcs[f]? with
    | none=>none
    | some fn=>match fn.body.isSome&&J8 P f with
     | false=>none
     | true=>match k with
      | 1=>some (QTM false (mkG P (Zg P B l d)) (hnd (mkG P (Zg P B l d)) 60) fn)
      | 2=>some (QCI false (mkG P (Zg P B l d)) (hnd (mkG P (Zg P B l d)) 60) fn)
      | _=>some (QCI true (mkG P (Zg P B l d)) (hnd (mkG P (Zg P B l d)) 60) fn)
theorem QV4{B:Tab}(hB:Qf B)(l:List (Nat×Nat)):∀ d,Qf (Zg prog B l d)
 | 0=>λf fc h=>by cases h
 | d+1=>λf fc h=>by
  have ih:=QHQ (QV4 hB l d);simp only[Zg]at h;split at h
  .rename_i fc0 h0;simp only[qsI]at h;subst h;exact Qfi (hB _ _ h0)
  split at h
  .cases h
  .split at h
   .cases h
   .rename_i fn hf;split at h
    .cases h
    .rename_i hb;simp only[qbA,Option.isSome_iff_exists]at hb;obtain⟨⟨c,hc⟩,hgo⟩:=hb;split at h<;>simp only[qsI]at h<;>subst h
     .exact Qlb ih hf hc hgo λG hG=>Qz ih 60 G _ hG
     .exact QIU ih hf hc hgo λG hG=>Qz ih 60 G _ hG
     .exact QIU ih hf hc hgo λG hG=>Qz ih 60 G _ hG
def Qck:Unit->Bool×AV:=λ_=>(true,.bool false true)
def QA1:FC:=Kj (Ko Qck)
variable {f:FuncId}
theorem QeD{C:Tab}(hC:Qf C)(d:Nat){fn:Func}(hf:prog.funcs[f]? = some fn)(hb:fn.body=some (Qn fn))(hgo:J8 prog f=true)(h:KY (mkG prog C) (hnd (mkG prog C) d) false fn [] [] 0 = .leaf (.bool true true) []):QS prog f QA1:=by
 refine QKN (QHQ hC) hf hb hgo (λG _ hG=>Qz (QHQ hC) d G _ hG) ?_;rintro⟨⟩ _;rw[show(KL.enc ((()):Unit):List AV)=[]from rfl,h];rfl
