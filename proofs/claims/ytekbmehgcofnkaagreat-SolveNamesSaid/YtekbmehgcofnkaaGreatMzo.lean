/- - -/
import Derived.Test.YtekbmehgcofnkaaGreatMzn
import Derived.Shelf.SlSortCmp.WholeK
import Derived.Shelf.SlicesG.Cmp
import Derived.Shelf.Small.Bits
import Derived.Ground.SlsfProg
import Derived.Ground.SlgcProg
import Derived.Ground.NamesProg
import Derived.Shelf.SlSortCmp.NoneTotal
open Go.Proofs.Tryz
open Go.IntKind (i64)
set_option maxRecDepth 100000
namespace Go.Proofs.YtekbmehgcofnkaaGreat
open Go.SX Go.SX.Told
variable (d:Puz)(E:ECt)(l:List Lay)(k z z':Nat)(v:Bool)
def bdZ(a z:Nat):Nat×Blk:=(288,.cells 0 152 (KX d++[.map 289,.slz a 0 z (.of 0)]))
def iqS:List (Nat×AV):=[(0,.ptr 288 0 0),(1,.slz 320 0 l.length (.of 0)),(7,.slz 320 0 l.length (.of 0)),(8,.int false .i64 l.length),(9,.int false .i64 k)]
def iqJ(z k:Nat):JSt:=⟨34,iqS l k,[bdZ d 328 z,(289,.mp E.1 E.2),rwY 320 l]++Qm.blk 0 d.ps,336⟩
def Gl:JSt:=⟨34,[(4,.bool false false)],[bdZ d 328 z,(289,.mp E.1 E.2)],336⟩
def QFL:JSt:=⟨34,[],[bdZ d 328 z,(289,.mp E.1 E.2)],336⟩
def QSG:Ex->List Nat
 | .normal=>[0,1,7,8,9]
 | .exit _=>[]
 | .ret=>[4]
def QJt(pb:List Prop->Bool)(d:Puz)(E:ECt)(L:List Lay)(x:Lay)(v:Bool):Tab:=Qa (Qa QT 52 (KG pb (tnU d L.length x.piece))) 105 (KG pb (mzU d E L x v))
noncomputable abbrev HG:Nat×Blk:=
  (288,.cells 0 152 (List.append (waf d) ([.map 289,.slz 320 0 k cO])))
noncomputable abbrev jy:Nat×Blk:=
  (0,.frz (List.append (waa) ((List.append (waA) ((List.append (waZ) ([.int .i64])))))) d.ps.n λi=>QA.enc (d.ps.get i))
noncomputable abbrev zs:Nat×Blk:=
  (320,.rowz true 49 kB l.length λi=>QA.enc (l.getD i (Lay.mk (0:Int) (0:Int))))
noncomputable abbrev QNr(d:Puz)(z:Nat):List (Nat×Blk):=
  [(288,.cells 0 152 (List.append (waf d) ([.map 289,.slz 328 0 z cO]))),(289,.mp E.1 E.2),(jy d)]
theorem QeF(pb:List Prop->Bool)(d:Puz)(E:ECt)(l L:List Lay)(v:Bool)(z k:Nat)(g:Nat->Value):exec (mkE prog (QJt pb d E L (l.getD k ⟨0,0⟩) v)) (hnd (mkE prog (QJt pb d E L (l.getD k ⟨0,0⟩) v)) 1) (QI f62 0) (JSt.inst (iqJ d E l z k) g) (Q6 [288, 289] QSG) = .br (decide ((k:Int)<(l.length:Int))) (.need (decide ((0:Int)<=(k:Int)/\(k:Int)<(l.length:Int))&&decide (l.length<=l.length)) (.need (decide (k<l.length)) (.need (decide ((0:Int)<=(k:Int)/\k<=l.length-0)) (.need (pb (([0=0,0=0,(l.getD k (Lay.mk (0:Int) (0:Int))).piece=(l.getD k (Lay.mk (0:Int) (0:Int))).piece]++wab d++([cO=cO,0=0,k=L.length,cO=cO]++wae d)))) (.br (decide ((l.getD k (Lay.mk (0:Int) (0:Int))).turn≥tnV d (l.getD k (Lay.mk (0:Int) (0:Int))).piece)) (.leaf (.tup [.nili,.ptr 34 0 0,.bool true false]) ([(HG d k),(289,.mp E.1 E.2),(jy d),(zs l)])) (.need (pb (([0=0,0=0,(l.getD k (Lay.mk (0:Int) (0:Int))).piece=(l.getD k (Lay.mk (0:Int) (0:Int))).piece,(l.getD k (Lay.mk (0:Int) (0:Int))).turn=(l.getD k (Lay.mk (0:Int) (0:Int))).turn]++wab d++([cO=cO,0=0,k=L.length,cO=cO,L.length<=l.length,QB 2 L.length (λi=>QA.enc (l.getD i (Lay.mk (0:Int) (0:Int)))) λi=>QA.enc (L.getD i (Lay.mk (0:Int) (0:Int))),E.1=E.1,E.2=E.2]++wae d)))) (.br (!v) (.leaf (.tup [.nili,.ptr 34 0 0,.bool true false]) ([(HG d k),(289,.mp E.1 E.2),(jy d),(zs l)])) (.leaf (.tup [.nilp,.ptr 34 0 0,.ptr 288 0 0,.slz 320 0 l.length cO,.slz 320 0 l.length cO,vi (l.length:Int),vi (i64.wrap ((k:Int)+1))]) ([(HG d k),(289,.mp E.1 E.2),(zs l),(jy d)]))))))))) (.leaf (.tup [.ptr 0 0 0,.ptr 34 0 0]) ((QNr E d z))):=by kernel_rfl
abbrev QOA(d:Puz)(k:Nat)(z':Nat):List Prop:=
  ([false=false]++wab d++[cO=cO,0=0,k=z',cO=cO,E.1=E.1,E.2=E.2])
theorem QgX :QE 320 [.bool true false] ([(HG d k),(289,.mp E.1 E.2),(jy d),(zs l)]) (Gl d E z')=(some (QOA E d k z')):=by kernel_rfl
theorem QWY :QE 320 [.bool true false] ([(HG d k),(289,.mp E.1 E.2),(jy d),(zs l)]) (Gl d E z')=(some (QOA E d k z')):=by kernel_rfl
abbrev QPc:List Prop:=
  (wab d++[cO=cO,0=0])
theorem QXQ(z' k k':Nat):QE 320 [.ptr 288 0 0,.slz 320 0 l.length cO,.slz 320 0 l.length cO,vi (l.length:Int),vi (i64.wrap ((k:Int)+1))] ([(HG d k),(289,.mp E.1 E.2),(zs l),(jy d)]) (iqJ d E l z' k')=(some (((wbW l++[0=0])++wbS l++[i64.wrap ((k:Int)+1)=(k':Int)])++(QPc d)++(([k=z',cO=cO,E.1=E.1,E.2=E.2]++wag l)++wae d))):=by kernel_rfl
theorem QV5 :QE 320 [] ((QNr E d z)) (QFL d E z)=(some ((QPc d)++[z=z,cO=cO,E.1=E.1,E.2=E.2])):=by kernel_rfl
def iqU(z':Nat):UC:=⟨296,⟨2,[(0,.ptr 288 0 0),(1,.slz 304 0 l.length (.of 0))],[bdZ d 312 z,(289,.mp E.1 E.2),rwY 304 l]++Qm.blk 0 d.ps,320⟩,λ_=>.bool false v,λm=>[bdZ d m z',(289,.mp E.1 E.2)]⟩
abbrev iqH(P:Program)(d:Puz)(E:ECt)(l:List Lay)(z:Nat)(X:List (Prop×Ex×JSt)):Hnd:={ hnd (mkE P QT) 1 with loop:=λ_=>KH 320 [288,289] (iqJ d E l z 0) X }
theorem QhQ(A B:Prop)(z1 z2:Nat)(v:Bool)(z':Nat):VQ (mkE prog QT) (iqH prog d E l z [(A,.ret,Gl d E z1),(B,.exit 0,QFL d E z2)]) f62 (iqU d E l z v z') = .ak (((wbW l++[0=0])++wbS l++[(0:Int)=0])++wab d++(([cO=cO,0=0,z=z,cO=cO,E.1=E.1,E.2=E.2]++wag l)++wae d)) (.both (.asm (A) (.all (λ(g0:Nat->Value)=>.leaf (.bool false false) ([(288,.cells 0 152 (List.append (waF d) ((List.append (wbv d) ([.slz 328 0 z1 cO]))))),(289,.mp E.1 E.2)])))) (.asm (B) (.all (λ(g1:Nat->Value)=>.leaf (.bool true true) ([(288,.cells 0 152 (List.append (waF d) ((List.append (wbv d) ([.slz 328 0 z2 cO]))))),(289,.mp E.1 E.2)]))))):=by kernel_rfl
theorem QdL(z z1:Nat)(v:Bool)(z':Nat):QE 320 [(AV.bool false false)] ([((288:Nat),Blk.cells (0:Nat) (152:Nat) (List.append (waF d) ([AV.bool false d.turn,AV.slz (0:Nat) (0:Nat) d.ps.n cO,AV.map (289:Nat),AV.slz (328:Nat) (0:Nat) z1 cO]))),((289:Nat),Blk.mp E.1 E.2)]) (KR (iqU d E l z v z'))=( some ([false=v]++wab d++[cO=cO,0=0,z1=z',cO=cO,E.1=E.1,E.2=E.2])):=by kernel_rfl
theorem QVy(z z2:Nat)(v:Bool)(z':Nat):QE 320 [(AV.bool true true)] ([((288:Nat),Blk.cells (0:Nat) (152:Nat) (List.append (waF d) ([AV.bool false d.turn,AV.slz (0:Nat) (0:Nat) d.ps.n cO,AV.map (289:Nat),AV.slz (328:Nat) (0:Nat) z2 cO]))),((289:Nat),Blk.mp E.1 E.2)]) (KR (iqU d E l z v z'))=( some ([true=v]++wab d++[cO=cO,0=0,z2=z',cO=cO,E.1=E.1,E.2=E.2])):=by kernel_rfl
def YC:Bool:=decide ((l.getD k ⟨0,0⟩:Lay).turn≥tnV d (l.getD k ⟨0,0⟩:Lay).piece) || !Qy d E (l.take k) (l.getD k ⟨0,0⟩)
def Xw(n z k:Nat):Nat:=cond (decide (k<n)) (n-1) z
def jT(k:Nat×Nat)(e:Ex)(J:JSt):Prop:=match QU (YC d E l) (l.length-k.1) k.1 with
 | some i=>e = .ret/\J=Gl d E i
 | none=>e = .exit 0/\J=QFL d E (Xw l.length k.2 k.1)
open Classical in
noncomputable def jj(P:Program)(d:Puz)(E:ECt)(l:List Lay)(k:Nat×Nat):Env:=mkE P (QJt (if k.1<l.length then QQ else λ_=>false) d E (l.take k.1) (l.getD k.1 ⟨0,0⟩) (Qy d E (l.take k.1) (l.getD k.1 ⟨0,0⟩)))
theorem QVo{d:Puz}{E:ECt}(hd:KB d)(hE:WfE E){l:List Lay}(hl:l.length<=1000)(hL:∀ y∈l,Q8 d y)(k:Nat×Nat):(jj prog d E l k).Sound:=by
 unfold jj
 by_cases h:k.1<l.length
 .rw[if_pos h];exact QO ((Qf.add (YR d _ _)).add (QbG d E (l.take k.1) (l.getD k.1 ⟨0,0⟩) hd hE (by rw[List.length_take];omega) (λy hy=>hL y (List.mem_of_mem_take hy)) (by rw[JL h];exact hL _ (List.getElem_mem h))))
 .rw[if_neg h];exact QO ((Qf.add (Jr (by kernel_rfl) _)).add (Jr (by kernel_rfl) _))
theorem QXB(hk:k<=l.length):QB 2 (l.take k).length (λi=>QA.enc (l.getD i (⟨0,0⟩:Lay))) λi=>QA.enc ((l.take k).getD i (⟨0,0⟩:Lay)):=by
 intro i hi;rw[List.length_take]at hi;show eqF 2 0 _ (QA.enc ((l.take k).getD i (⟨0,0⟩:Lay)))
 have e:(l.take k).getD i ⟨0,0⟩=l.getD i ⟨0,0⟩:=by
  rw[List.getD_eq_getElem?_getD,List.getD_eq_getElem?_getD,List.getElem?_take,if_pos (by omega)]
 rw[e];exact⟨rfl,rfl,trivial⟩
theorem QiC(hl:l.length<=1000):JW (λk:Nat×Nat=>iqJ d E l k.2 k.1) (λk=>k.1<=l.length) (λk=>l.length-k.1) (jT d E l) 320 QSG [288,289] (jj prog d E l) (λk=>hnd (jj prog d E l k) 1) (QI f62 0):=by
 refine⟨λk g0 hk=>?_⟩;obtain⟨k,z⟩:=k;have hk:k<=l.length:=hk;have htk:(l.take k).length=k:=by rw[List.length_take];omega
 have hit:∀(_:k<l.length),YC d E l k=true->jT d E l (k,z) .ret (Gl d E k):=by
  intro h hb;unfold jT;simp only[(VP h).1 hb,and_self]
 unfold jj;simp only;have et:=QeF (if k<l.length then QQ else λ_=>false) d E l (l.take k) (Qy d E (l.take k) (l.getD k ⟨0,0⟩)) z k g0
 refine Qg et ?_;clear et;refine QF (λb0=>?_) (λb0=>?_);have h:k<l.length:=by have:=qdt b0;omega
 have hf:=VP (p:=YC d E l) h;have hw:=VT h hl;have hr:=QXB l k hk;rw[if_pos h]
 iterate 4 (refine QG ?_ ?_;rotate_left)
 refine QF (λb1=>?_) (λb1=>?_);have hb:YC d E l k=true:=by unfold YC;rw[show decide ((l.getD k ⟨0,0⟩:Lay).turn≥tnV d (l.getD k ⟨0,0⟩:Lay).piece)=true from b1];rfl
 refine⟨_,hit h hb,rfl,rfl,_,QgX d E l k k,?_⟩
 rotate_left
 refine QG ?_ ?_;rotate_left;refine QF (λb2=>?_) (λb2=>?_);have hb:YC d E l k=true:=by unfold YC;rw[show Qy d E (l.take k) (l.getD k ⟨0,0⟩)=false by simpa using b2];simp
 refine⟨_,hit h hb,rfl,rfl,_,QWY d E l k k,?_⟩
 rotate_left
 .have hb:YC d E l k=false:=by unfold YC;rw[show decide ((l.getD k ⟨0,0⟩:Lay).turn≥tnV d (l.getD k ⟨0,0⟩:Lay).piece)=false from b1,show Qy d E (l.take k) (l.getD k ⟨0,0⟩)=true by simpa using b2];rfl
  refine⟨(k+1,k),h,by show l.length-(k+1)<l.length-k;omega,λe J hr=>?_,rfl,rfl,_,QXQ d E l k k (k+1),?_⟩
  .unfold jT at hr ⊢;simp only at hr ⊢;rw[hf.2 hb]
   have hz:Xw l.length k (k+1)=Xw l.length z k:=by
    unfold Xw;rw[show decide (k<l.length)=true from qde h]
    by_cases h2:k+1<l.length
    .rw[qde h2];rfl
    .rw[decide_eq_false h2];show k=l.length-1;omega
   rw[hz]at hr;exact hr
  .repeat' first|with_reducible refine QP ?_ ?_|exact tv|with_reducible exact qRr|exact hw|exact rfl|refine aI ?_ ?_
 have h:l.length<=k:=by have:=qdf b0;omega
 have hz:Xw l.length z k=z:=by unfold Xw;rw[decide_eq_false (by omega)];rfl
 refine⟨_,(by unfold jT;simp only[show l.length-k=0 by omega,QU,hz,and_self]),rfl,rfl,_,QV5 d E z,?_⟩
 rotate_left
 all_goals first|((with_reducible show _=true);(first|rfl|(refine KA.2 ?_;repeat' first|with_reducible refine QP ?_ ?_|exact tv|with_reducible exact qRr|exact htk|exact htk.symm|exact Nat.le_of_eq htk|exact Nat.le_of_eq htk.symm|exact Nat.le_trans (Nat.le_of_eq htk) hk|exact hr|exact rfl|refine aI ?_ ?_)|(simp;done)|(simp;omega)))|(repeat' first|with_reducible refine QP ?_ ?_|exact tv|with_reducible exact qRr|exact rfl|refine aI ?_ ?_)
def iqF:Option Nat:=QU (YC d E l) l.length 0
def V4:Bool:=(iqF d E l).isNone
def iqZ:Nat:=match iqF d E l with
 | some i=>i
 | none=>Xw l.length z 0
def iqX:List (Prop×Ex×JSt):=[((iqF d E l).isSome=true,.ret,Gl d E ((iqF d E l).getD 0)),(iqF d E l=none,.exit 0,QFL d E (Xw l.length z 0))]
theorem QeB{d:Puz}{E:ECt}(hd:KB d)(hE:WfE E){l:List Lay}(hl:l.length<=1000)(hL:∀ y∈l,Q8 d y)(z:Nat)(G:Ctx)(hrd:G.rd=none)(hG:G.n=320):Qx (mkE prog QT) G (iqH prog d E l z (iqX d E l z)) (Ql f62):=by
 refine KO (body:=QI f62 0) (QO Qf) hrd (by kernel_rfl) ?_
 have hEnv:=QVo hd hE hl hL;refine Jq (E0:=mkE prog QT) (E:=jj prog d E l) (H:=λk=>hnd (jj prog d E l k) 1) (n0:=320) (s0:=(0,z)) (λ_=>rfl) hEnv (by omega) (λk _=>Qw (hEnv k) 1 G _ hrd) (λk _=>(by decide:320<=336)) ?_ (QiC d E l hl) (Nat.zero_le _) ?_
 .intro k e J h;unfold jT at h;split at h<;>(rw[h.2];exact(by decide:320<=336))
 .intro e J h;unfold jT at h;simp only[Nat.sub_zero]at h;unfold iqX;cases hf:iqF d E l with
  | some i=>rw[show QU (YC d E l) l.length 0=some i from hf]at h;exact⟨_,qmc,rfl,h.1.symm,h.2.symm⟩
  | none=>rw[show QU (YC d E l) l.length 0=none from hf]at h;exact⟨_,List.mem_cons_of_mem _ qmc,rfl,h.1.symm,h.2.symm⟩
theorem QVv(z':Nat):(iqU d E l z v z').Ok:=by
 refine⟨(by decide:296<=320),rfl,rfl,?_,rfl,λ_ _=>rfl,λnid h=>?_⟩
 .intro q hq;simp only[UC.po,iqU,bdZ,List.mem_cons,List.not_mem_nil,or_false]at hq;rcases hq with rfl|rfl<;>exact⟨rfl,rfl,rfl,λ_=>rfl⟩
 .have e0:=KZ 296 320 0 nid (by decide)
  simp only[UC.po,iqU,bdZ,KX,Qm.val,List.cons_append,List.nil_append,List.map_cons,List.map_nil,Blk.mapId,AV.mapId,AV.mapIdL,Nat.add_zero]at e0 ⊢;rw[e0];rfl
theorem QXa{d:Puz}{E:ECt}(hd:KB d)(hE:WfE E){l:List Lay}(hl:l.length<=1000)(hL:∀ y∈l,Q8 d y)(z:Nat):QS prog 62 (uFC (iqU d E l z (V4 d E l) (iqZ d E l z))):=by
 refine Ky (c:=Ql f62) (E:=mkE prog QT) (QO Qf) func62 (by kernel_rfl) (by kernel_rfl) (QVv ..) (λG h1 h2=>QeB hd hE hl hL z G h1 (by rw[h2];rfl)) ⟨?_⟩
 have et:=QhQ d E l z ((iqF d E l).isSome=true) (iqF d E l=none) ((iqF d E l).getD 0) (Xw l.length z 0) (V4 d E l) (iqZ d E l z);refine Qg et ?_;clear et
 iterate 30 refine Qq (by first|exact tv|with_reducible exact qRr|exact rfl) ?_
 refine Kf ?_ ?_;refine Qh λa0=>?_;refine Qj λg0=>?_
 .have hv:V4 d E l=false:=by unfold V4;cases hf:iqF d E l with
   | none=>rw[hf]at a0;cases a0
   | some i=>rfl
  have hz:(iqF d E l).getD 0=iqZ d E l z:=by unfold iqZ;cases hf:iqF d E l with
   | none=>rw[hf]at a0;cases a0
   | some i=>rfl
  rw[hv,<-hz];refine⟨rfl,rfl,_,QdL d E l z ((iqF d E l).getD 0) false ((iqF d E l).getD 0),?_⟩
  repeat' first|with_reducible refine QP ?_ ?_|exact tv|with_reducible exact qRr|exact rfl|refine aI ?_ ?_
 refine Qh λa1=>?_;refine Qj λg1=>?_;have hv:V4 d E l=true:=by unfold V4;rw[a1];rfl
 have hz:Xw l.length z 0=iqZ d E l z:=by unfold iqZ;rw[a1]
 rw[hv,<-hz];refine⟨rfl,rfl,_,QVy d E l z (Xw l.length z 0) true (Xw l.length z 0),?_⟩
 rotate_left
 all_goals (repeat' first|with_reducible refine QP ?_ ?_|exact tv|with_reducible exact qRr|exact rfl|refine aI ?_ ?_)
structure Tw where
 a:Int
 b:Int
instance : QA Tw where
  ks := [.int .i64,.int .i64]
  enc p j := match j with
    | 0 => p.a
    | _ => p.b
  dec f := ⟨f 0,f 1⟩
  ok _ := rfl
instance : Enc Tw where
  enc x := .agg [.int false .i64 x.a,.int false .i64 x.b]
  dec | .agg [.int _ .i64 a0,.int _ .i64 a1] => some ⟨a0,a1⟩ | _ => none
  ok v x h := by
    split at h <;> (try (cases h; done))
    simp only[qsI]at h; subst h; exact⟨λ_=>rfl,rfl⟩
def Jk(x y:Tw):Int:=orI (JS x.a y.a) (JS x.b y.b)
def QAp:WF (Tw×Tw×Unit):=λ|(x,(y,_))=>(true,.int false .i64 (Jk x y),[])
def QZ0:FC:=wFC QAp
theorem QZa(x:Tw)(y:Tw):Kn (mkE prog VR) (hnd (mkE prog VR) 6) f65 (Qe.vals 0 ((x,y,()):Tw×Tw×Unit)) (Qe.blks 0 ((x,y,()):Tw×Tw×Unit)) 8=QC.need (true) (QC.br (JS x.a y.a != (0:Int)) (QC.leaf (vi (JS x.a y.a)) ([])) (QC.need (true) (QC.br (JS x.b y.b != (0:Int)) (QC.leaf (vi (JS x.b y.b)) ([])) (QC.leaf (vj (0:Int)) ([]))))):=by kernel_rfl
theorem QgK:JQ (mkE prog VR) (Ql f65) 8 QAp (λx_=>(hnd (mkE prog VR) 6)):=by
 refine⟨?_⟩;rintro⟨x,⟨y,⟨⟩⟩⟩ hp G h1 h2;exact Qw (QO jF) 6 G _ h1
theorem QcJ:JR (mkE prog VR) f65 8 QAp (λx_=>(hnd (mkE prog VR) 6)):=by
 refine⟨?_⟩;rintro⟨x,⟨y,⟨⟩⟩⟩ hp;refine⟨⟨rfl,by simp[QAp],rfl⟩,⟨?_⟩⟩
 rw[QZa x y];simp only[QAp]at hp;refine QG rfl ?_;refine QF ?_ ?_<;>intro b0
 .refine Kd ⟨rfl,?_⟩ rfl;show _=Jk x y;unfold Jk orI;rw[b0];rfl
 refine QG rfl ?_;refine QF ?_ ?_<;>intro b1
 .refine Kd ⟨rfl,?_⟩ rfl;show _=Jk x y;unfold Jk orI;rw[b0];rfl
 .refine Kd ⟨rfl,?_⟩ rfl;show _=Jk x y;unfold Jk orI;rw[b0];have:JS x.b y.b=0:=by simpa using b1
  rw[this];rfl
theorem QVi:QS prog 65 QZ0:=
 JX (QO jF) func65 (by kernel_rfl) (by kernel_rfl) (by decide) QgK QcJ
end Go.Proofs.YtekbmehgcofnkaaGreat
namespace Go.Proofs
open Go.Shelf
def Tryz.sortTw_ren:Go.Shelf.Ren:=⟨λ|6=>107|15=>139|14=>138|28=>165|29=>166|20=>157|21=>158|22=>159|23=>160|24=>161|25=>162|26=>163|27=>164|46=>173|47=>174|48=>175|49=>176|50=>177|57=>186|n=>n,λ|22=>36|24=>89|25=>110|3=>3|39=>115|0=>0|53=>224|55=>226|4=>4|46=>217|45=>216|50=>221|5=>5|9=>9|66=>235|70=>239|76=>246|77=>182|n=>n,λ|n=>n⟩
theorem Tryz.sortTw:Go.Proofs.SlLaysF0.n6 prog Tryz.sortTw_ren:={
 mixed:=by kernel_rfl
 f6:=⟨f107.name,by decide,func107.trans (congrArg some (by kernel_rfl))⟩
 f14:=⟨f138.name,by decide,func138.trans (congrArg some (by kernel_rfl))⟩
 f15:=func139.trans (congrArg some (by kernel_rfl))
 f20:=⟨f157.name,by decide,func157.trans (congrArg some (by kernel_rfl))⟩
 f21:=⟨f158.name,by decide,func158.trans (congrArg some (by kernel_rfl))⟩
 f22:=⟨f159.name,by decide,func159.trans (congrArg some (by kernel_rfl))⟩
 f23:=⟨f160.name,by decide,func160.trans (congrArg some (by kernel_rfl))⟩
 f24:=⟨f161.name,by decide,func161.trans (congrArg some (by kernel_rfl))⟩
 f25:=⟨f162.name,by decide,func162.trans (congrArg some (by kernel_rfl))⟩
 f26:=⟨f163.name,by decide,func163.trans (congrArg some (by kernel_rfl))⟩
 f27:=⟨f164.name,by decide,func164.trans (congrArg some (by kernel_rfl))⟩
 f28:=func165.trans (congrArg some (by kernel_rfl))
 f29:=func166.trans (congrArg some (by kernel_rfl))
 f46:=⟨f173.name,by decide,func173.trans (congrArg some (by kernel_rfl))⟩
 f47:=func174.trans (congrArg some (by kernel_rfl))
 f48:=func175.trans (congrArg some (by kernel_rfl))
 f49:=⟨f176.name,by decide,func176.trans (congrArg some (by kernel_rfl))⟩
 f50:=⟨f177.name,by decide,func177.trans (congrArg some (by kernel_rfl))⟩
 f57:=⟨f186.name,by decide,func186.trans (congrArg some (by kernel_rfl))⟩
 t0:=underlying0
 a0:=Tryz.isAgg0
 z0:=Tryz.sizeOf0
 v0:=Tryz.zeroValue0
 t3:=underlying3
 a3:=Tryz.isAgg3
 z3:=Tryz.sizeOf3
 v3:=Tryz.zeroValue3
 t4:=underlying4
 a4:=Tryz.isAgg4
 z4:=Tryz.sizeOf4
 v4:=Tryz.zeroValue4
 t5:=underlying5
 a5:=Tryz.isAgg5
 z5:=Tryz.sizeOf5
 v5:=Tryz.zeroValue5
 t9:=underlying9
 a9:=Tryz.isAgg9
 z9:=Tryz.sizeOf9
 v9:=Tryz.zeroValue9
 t22:=underlying36
 a22:=Tryz.isAgg36
 z22:=Tryz.sizeOf36
 v22:=Tryz.zeroValue36
 t25:=underlying110
 a25:=Tryz.isAgg110
 z25:=Tryz.sizeOf110
 v25:=Tryz.zeroValue110
 t39:=underlying115
 a39:=Tryz.isAgg115
 z39:=Tryz.sizeOf115
 v39:=Tryz.zeroValue115
 t45:=underlying216
 a45:=Tryz.isAgg216
 z45:=Tryz.sizeOf216
 v45:=Tryz.zeroValue216
 t46:=underlying217
 a46:=Tryz.isAgg217
 z46:=Tryz.sizeOf217
 v46:=Tryz.zeroValue217
 t50:=underlying221
 a50:=Tryz.isAgg221
 z50:=Tryz.sizeOf221
 v50:=Tryz.zeroValue221
 t53:=underlying224
 a53:=Tryz.isAgg224
 z53:=Tryz.sizeOf224
 v53:=Tryz.zeroValue224
 t55:=underlying226
 a55:=Tryz.isAgg226
 z55:=Tryz.sizeOf226
 v55:=Tryz.zeroValue226
 t66:=underlying235
 a66:=Tryz.isAgg235
 z66:=Tryz.sizeOf235
 v66:=Tryz.zeroValue235
 t70:=underlying239
 a70:=Tryz.isAgg239
 z70:=Tryz.sizeOf239
 v70:=Tryz.zeroValue239
 t76:=underlying246
 a76:=Tryz.isAgg246
 z76:=Tryz.sizeOf246
 v76:=Tryz.zeroValue246
 t77:=underlying182
 a77:=Tryz.isAgg182
 z77:=Tryz.sizeOf182
 v77:=Tryz.zeroValue182 }
end Go.Proofs
namespace Go.Proofs.YtekbmehgcofnkaaGreat
open Go Go.RowKit Go.Lib Go.Shelf Go.Sort Go.SX Go.SX.Told
instance : Inhabited Tw := ⟨⟨0,0⟩⟩
def K8(x:Tw):List Value:=[.int .i64 x.a,.int .i64 x.b]
def Yr(g:Nat->Nat->Int)(i:Nat):Tw:=⟨g i 0,g i 1⟩
def J1(l:List Tw):List Tw:=l.mergeSort λx y=>!(ltOf Jk) y x
def Xy(n:Nat)(g:Nat->Nat->Int)(i:Nat):Nat->Int:=QA.enc ((J1 ((List.range n).map (Yr g))).getD i ⟨0,0⟩)
def ksT:List CK:=[.int .i64,.int .i64]
theorem X5(x y:Tw):Jk x y<0↔x.a<y.a∨(x.a=y.a/\x.b<y.b):=by
 unfold Jk;simp only[QNy,QNC,QMM]
theorem QMi:SWO (ltOf Jk) where
 irrefl x:=by simp only[ltOf,decide_eq_false_iff_not,X5];omega
 trans x y z h1 h2:=by simp only[ltOf,qdE,X5]at *;omega
 ntrans x y z h1 h2:=by simp only[ltOf,decide_eq_false_iff_not,X5]at *;omega
theorem QTB(x y:Tw)(h1:(ltOf Jk) x y=false)(h2:(ltOf Jk) y x=false):x=y:=by
 simp only[ltOf,decide_eq_false_iff_not,X5]at h1 h2;obtain⟨a,b⟩:=x;obtain⟨a',b'⟩:=y;simp only[Tw.mk.injEq]at *;omega
theorem Qem(blk off size:Nat)(w:World):CmpLays prog 65 #[] K8 2 Jk blk off size w:=by
 intro m os dk _ x y;generalize sortWorldK K8 2 w blk off m dk os=W;have h:=QVi.2 [Enc.enc x,Enc.enc y] 0 [] (λ_=>SX.Loc.none 0) W (λ_=>none) [] ⟨false,true,.int false .i64 (Jk x y),[]⟩ ⟨λ_ _ h=>(by cases h),λ_ _ h=>(by cases h),λ_ _ h=>(by cases h),λ_ _ _ _ h=>(by cases h)⟩ rfl rfl rfl rfl
 refine h.mono ?_;rintro e w' ⟨r',rfl,hp⟩;refine⟨rfl,QOd ?_⟩;have hf:=hp.fr;refine⟨hf.os,hf.tape,hf.output,hf.size,hf.drawn,λk hk _=>hf.block k hk ?_⟩;rintro⟨p,hp,_⟩;cases hp
theorem QSB(r:Nat->SX.Loc)(n:Nat)(g:Nat->Nat->Int):AV.denL r (Q5 n (QW ksT g)).flatten=((List.range n).map (Yr g)).flatMap K8:=by
 rw[Qp,Q5,<-List.flatMap_def,List.map_flatMap,List.flatMap_map];rfl
theorem QZt(r:Nat->SX.Loc)(n:Nat)(g:Nat->Nat->Int):AV.denL r (Q5 n (QW ksT (Xy n g))).flatten=(J1 ((List.range n).map (Yr g))).flatMap K8:=by
 rw[QSB];congr 1;have hl:(J1 ((List.range n).map (Yr g))).length=n:=by unfold J1;rw[List.length_mergeSort];simp
 apply List.ext_getElem
 .rw[hl];simp
 .intro i h1 h2;rw[List.getElem_map,List.getElem_range];exact(show Yr (Xy n g) i=(J1 ((List.range n).map (Yr g))).getD i ⟨0,0⟩from rfl).trans (JL h2)
variable {w:World}
theorem QeT{b m:Nat}{os:Array Obj}{l l':List Tw}{rest:List Value}{ty:TypeId}(h:bk w b=some (.cells (l.flatMap K8++rest).toArray ty (0,0)))(hl:l.length=l'.length):
  bk (sortWorldK K8 2 w b 0 m l'.toArray os) b=some (.cells (l'.flatMap K8++rest).toArray ty (0,0))/\(∀ k,k<w.heap.size->k≠b->bk (sortWorldK K8 2 w b 0 m l'.toArray os) k=bk w k)/\w.heap.size<=(sortWorldK K8 2 w b 0 m l'.toArray os).heap.size:=by
 have hk:∀ x,(K8 x).length=2:=λ_=>rfl
 have hf:flatK K8 2 l'.toArray=(l'.flatMap K8).toArray:=by
  apply Array.ext';rw[QL1 K8 2 hk]
 have hlen:(l.flatMap K8).length=(l'.flatMap K8).length:=by rw[qa K8 2 hk,qa K8 2 hk,hl]
 have hb:b<w.heap.size:=by
  unfold bk at h;exact(Array.getElem?_eq_some_iff.1 h).1
 unfold bk at h ⊢;unfold sortWorldK grow putRowK putRow mapBlock Sort.ahead;simp only[hf];refine⟨?_,λk hk1 hk2=>?_,by simp⟩
 .rw[Array.getElem?_append_left (by simpa using hb),Array.getElem?_modify,if_pos rfl,h]
  simp only[Option.map_some,onCells];rw[QK7 _ _ _ hlen]
 .rw[Array.getElem?_append_left (by simpa using hk1),Array.getElem?_modify,if_neg (λe=>hk2 e.symm)]
theorem QXe{b:Nat}{l:List Tw}{rest:List Value}{ty:TypeId}(h:bk w b=some (.cells (l.flatMap K8++rest).toArray ty (0,0))):HoldsK K8 2 w b 0 l.toArray:=by
 have hk:∀ x,(K8 x).length=2:=λ_=>rfl;intro j hj;rw[size_flatK]at hj;have hj:j<l.length*2:=by simpa using hj
 have e:((flatK K8 2 l.toArray)[j]!)=(K8 l[j / 2]!)[j % 2]! := by
  rw[get_flatK K8 2 _ j (by simpa using hj)];simp
 refine⟨?_,?_⟩
 .rw[XB h,Nat.zero_add,List.getElem?_append_left (by rw[qa K8 2 hk];exact hj),QEI K8 2 hk l j hj,e]
  rfl
 .unfold World.frozen?;unfold bk at h;rw[h];simp
def QHe:FC:=λargs _ _=>match args with
 | [.slz id 0 n _,.fn (.func f) []]=>([id],λbs=>match Nat.beq f 65,bs with
  | true,[.rowz true ty [.int .i64,.int .i64] n' g]=>some ⟨false,decide (n=n')&&decide (n<4611686018427387904),.tup [],[(id,.rowz true ty [.int .i64,.int .i64] n (Xy n g))]⟩
  | _,_=>none)
 | [.nils,.fn (.func f) []]=>([],λbs=>match Nat.beq f 65,bs with
  | true,[]=>some ⟨false,true,.tup [],[]⟩
  | _,_=>none)
 | _=>([],λ_=>none)
theorem QSq(l:List Tw):(J1 l).length=l.length:=by unfold J1;rw[List.length_mergeSort]
theorem Qfp:∀ w,(isAgg 89).run prog w = .ok true w:=Tryz.isAgg89
theorem QeU:∀ w,(Go.sizeOf 89).run prog w = .ok 2 w:=Tryz.sizeOf89
theorem Qc4:QS prog 107 QHe:=by
 have hnone:∀(p:Option Addr) (cap:Nat) (fv:Value) (w:World),Calls prog 107 #[.slice p 0 cap,fv] w λe w'=>e = .returned (.tuple #[])/\w'=w:=AnyF.slices_SortFunc_none Tryz.sortTw;refine⟨by kernel_rfl,λargs nid all r w lk blks eff hH _ hv he hp=>?_⟩
 unfold QHe at hv he;split at he<;>(try (cases he;done))
 rotate_left
 .rename_i f hx;simp only at he;split at he<;>(try (cases he;done))
  rename_i hf;have hf:f=65:=qnb hf;subst hf;simp only[qsI]at he;subst he;refine(hnone none 0 (.func (.func 65) #[] #[]) w).mono ?_;rintro e w' ⟨rfl,rfl⟩;exact⟨r,rfl,λ_ _=>rfl,λp hp=>(by cases hp),⟨rfl,rfl,rfl,qlr _,qlr _,λ_ _ _=>rfl⟩,λp hp=>(by cases hp),λp hp=>(by cases hp),λp hp=>(by cases hp)⟩
 rename_i id n c f hx;simp only at he;split at he<;>(try (cases he;done))
 rename_i ty n' g hf;have hf:f=65:=qnb hf;subst hf;simp only[qsI]at he;subst he;simp only[qbA,qdE]at hp;obtain⟨hn,hlt⟩:=hp;subst hn;have hlk:lk id=some (.rowz true ty [.int .i64,.int .i64] n g):=by simpa using hv
 have hlk:lk id=some (.rowz true ty ksT n g):=hlk;obtain⟨h0,h4,hfoot,hnil,hrow,hcells⟩:=(show Ka r id w ty ksT.length n (QW ksT g)from hH.rep _ _ hlk);have hout:=hH.out _ _ hlk;have hrow':∀ i,i<n->(QW ksT (Xy n g) i).length=ksT.length/\JV (QW ksT (Xy n g) i)=true:=λi _=>⟨V0 _ _ _,J2 _ _ _⟩;cases hN:(r id).nil with
 | true=>
  have hz:=hnil hN;subst hz;refine(hnone ((r id).base 0) ((r id).room (c.den (r id).cap)) (.func (.func 65) #[] #[]) w).mono ?_;rintro e w' ⟨rfl,rfl⟩;refine⟨r,rfl,λ_ _=>rfl,?_,⟨rfl,rfl,rfl,qlr _,qlr _,λ_ _ _=>rfl⟩,?_,?_,?_⟩
  .intro p hp;rw[List.mem_singleton.1 hp];exact⟨h0,h4,hfoot,hnil,λi hi=>absurd hi (Nat.not_lt_zero _),λq=>by rw[hN]at q;cases q⟩
  .intro p hp hin;rw[List.mem_singleton.1 hp]at hin;rw[hout]at hin;cases hin
  .intro p hp _ _ k hk;rw[List.mem_singleton.1 hp]at hk;rw[List.mem_singleton.1 hp];exact⟨_,hlk,hk⟩
  .intro p hp q _ hin;rw[List.mem_singleton.1 hp]at hin;rw[hout]at hin;cases hin
 | false=>
  obtain⟨hcap,rest,hrest,hbk⟩:=hcells hN;rw[QSB]at hbk
  have hb:(r id).blk<w.heap.size:=by
   unfold bk at hbk;exact(Array.getElem?_eq_some_iff.1 hbk).1
  have eg:∀ args w,(callFunc 65 args).run prog w = .ok (.enter 65 args) w:=enters_of func65 (by kernel_rfl) rfl
  have hd:((List.range n).map (Yr g)).toArray.size=n:=by simp
  have hcon:=AnyQ.slices_SortFunc Tryz.sortTw 2 Qfp QeU K8 (λ_=>rfl) (λx v hv=>by simp[K8]at hv;rcases hv with rfl|rfl<;>rfl) Jk QMi 65 #[] (r id).blk 0 ((r id).room (c.den (r id).cap)) ((List.range n).map (Yr g)).toArray w eg (Qem _ _ _ _) (QXe hbk) hb (by rw[hd];exact hlt)
  rw[hd]at hcon
  have ha:AV.denL r [.slz id 0 n c,.fn (.func 65) []]=[.slice (some ⟨(r id).blk,0,none⟩) n ((r id).room (c.den (r id).cap)),.func (.func 65) #[] #[]]:=by
   simp only[AV.denL,AV.den,Loc.base,hN,h0,Nat.zero_mul,Nat.add_zero]
  rw[ha];refine hcon.mono ?_;rintro e w' ⟨rfl,d',m,os,hperm,hsort,rfl⟩;have hu:=sorted_unique_holds QMi QTB ((List.range n).map (Yr g)).toArray d' (by rw[hd];exact hperm) (by rw[hd];exact hsort)
  have hd':d'=(J1 ((List.range n).map (Yr g))).toArray:=Array.ext' (by rw[hu];rfl)
  subst hd';obtain⟨w1,w2,w3⟩:=QeT (m:=m) (os:=os) hbk (QSq _).symm;refine⟨r,rfl,λ_ _=>rfl,?_,⟨rfl,rfl,rfl,w3,Nat.le_add_right _ _,λk hk hc=>w2 k hk λe=>hc ⟨_,List.mem_singleton.2 rfl,hout,_,hlk,(hfoot k).2 ⟨hN,e⟩⟩⟩,?_,?_,?_⟩
  .intro p hp;rw[List.mem_singleton.1 hp];refine⟨h0,h4,hfoot,hnil,hrow',λ_=>⟨hcap,rest,hrest,?_⟩⟩;show bk _ _=some (.cells (AV.denL r (Q5 n (QW ksT (Xy n g))).flatten++rest).toArray ty (0,0));rw[QZt];exact w1
  .intro p hp hin;rw[List.mem_singleton.1 hp]at hin;rw[hout]at hin;cases hin
  .intro p hp _ _ k hk;rw[List.mem_singleton.1 hp]at hk;rw[List.mem_singleton.1 hp];exact⟨_,hlk,hk⟩
  .intro p hp q _ hin;rw[List.mem_singleton.1 hp]at hin;rw[hout]at hin;cases hin
def QOF:Tab:=Qa QT 107 QHe
theorem Qax:Qd QOF:=Qf.add Qc4
end Go.Proofs.YtekbmehgcofnkaaGreat
namespace Go.SX
open Go Go.RowKit Go.Proofs.YtekbmehgcofnkaaGreat
def JSt.dfrs(J:JSt)(D:Nat):JSt:=⟨J.len,J.live,(D,.dfr)::J.hp,J.nid⟩
def js(D:Nat)(J:JSt):Bool:=J.live.all (λp=>p.2.all (λi=>i != D))&&(J.hp.all (λq=>q.1 != D&&q.2.all (λi=>i != D))&&decide (D<J.nid))
variable {w:World}
theorem Inv.subD{G:Ctx}{n0 D:Nat}{ls:List Nat}{st:St}{J:JSt}{a:Act}{r:Nat->Loc}{h':List (Nat×Blk)}(hI:Inv G st.tm.length r (QJ st.tm) (look st.hp) a w)(hh:∀ id b,look h' id=some b->look st.hp id=some b)(hs:JT n0 ls st.tm.length (ls.map (QJ st.tm)) h' J)(hG:G.n<=n0)(hD:G.n<=D)(hf:js D J=true):∃ g,Rep G J.nid ((J.dfrs D).inst g) a w:=by
 obtain⟨ps0,hsub,hall⟩:=hs.eqs;unfold QE at hsub;simp only at hsub;generalize Z9 n0 _ _ _ _=Q at hsub;split at hsub<;>(try (cases hsub;done))
 rename_i ps qs e1 e2 hck;simp only[qsI]at hsub;subst hsub;obtain⟨ha1,ha2⟩:=qE.1 hall;simp only[qbA]at hck;obtain⟨hsc,hinj,hlow,hnd,_⟩:=hck;unfold Wy at hsc;simp only[List.all_eq_true,qbA,qdE]at hsc;unfold js at hf;simp only[List.all_eq_true,qbA,qdE,bne_iff_ne,ne_eq]at hf;obtain⟨hf1,hf2,hf3⟩:=hf;have hz:ls.map (QJ st.tm)=J.live.map (λp=>QJ st.tm p.1):=by rw[<-hs.slots,List.map_map];rfl
 have hden:=eqL_den (hJ:=J.hp) r _ _ _ e1 ha1;rw[hz]at hden;have hsame:=QHP hden
 have hget:∀ t,QJ ((J.dfrs D).inst λt=>a.tmps.getD t undef).tm t=if t<J.len then (match lkS J.live t with|some v=>v|none => .raw (a.tmps.getD t undef))else .tup []:=by
  intro t;have:=QBi (λt=>a.tmps.getD t undef) J.live J.len 0 t;rw[Nat.zero_add]at this;exact this
 have hblk:∀ id b,look J.hp id=some b->(QL (Qs Q J.hp r) id w b/\∀ k,¬ Qc (Qs Q J.hp r) id b k) ∨
   ∃ x b',K1 Q id=some x/\x.c ≠ .ghost/\look st.hp x.s=some b'/\QL (Qs Q J.hp r) id w b/\(∀ k,Qc (Qs Q J.hp r) id b k->Qc r x.s b' k)/\(b.own=true->b'.own=true):=by
  intro id b hb;rcases QCu e2 ha2 _ (Q7 hb)with ⟨x,h1,h2,q1,h3,h4⟩|⟨x,b',h1,h2,h3,q1,h4,h5⟩
  .refine .inl (QML h3 h4 ?_);unfold Qs;rw[h1];obtain⟨_,s,c⟩:=x;simp only at h2;subst h2;simp only;rw[hb]
  .have:=QNg (hJ:=J.hp) (r:=r) (w:=w) (x:=x) h1 h4 h5 (hI.rep _ _ (hh _ _ h3));exact .inr ⟨x,b',h1,h2,hh _ _ h3,this.1,this.2.1,this.2.2⟩
 obtain⟨mf,hmf⟩:∃ m:Nat->Prop,∀ k,m k↔∃ id,G.n<=id/\look st.hp id=some .dfr/\(r id).foot k:=⟨_,λ_=>Iff.rfl⟩;let r2:Nat->Loc:=λi=>if i=D then ⟨0,0,0,0,false,.none,mf⟩else Qs Q J.hp r i
 have hr2:∀ i,i≠D->r2 i=Qs Q J.hp r i:=λi hi=>if_neg hi;have hrD:(r2 D).foot=mf:=by show(if D=D then _ else _:Loc).foot=mf;rw[if_pos rfl]
 have hcong:∀ i,(i != D)=true->Qs Q J.hp r i=r2 i:=λi hi=>(hr2 i (by simpa using hi)).symm
 have hlk:∀ id b,look (J.dfrs D).hp id=some b->(id=D/\b = .dfr)∨(id≠D/\look J.hp id=some b/\b.all (λi=>i != D)=true):=by
  intro id b hb;simp only[JSt.dfrs,Kk]at hb;split at hb
  .rename_i he;simp only[Blk.live,if_true,qsI]at hb
   exact .inl ⟨by have : D = id := by simpa using he
                  exact this.symm,hb.symm⟩
  .rename_i he;exact .inr ⟨λe=>he (by simp[e]),hb,(hf2 _ (Q7 hb)).2⟩
 have hfoot:∀ id b k,id≠D->(Qc r2 id b k↔Qc (Qs Q J.hp r) id b k):=λid b k hid=>by unfold Qc;rw[hr2 id hid]
 have hmk:∀ id b k,look J.hp id=some b->b.own=true->Qc (Qs Q J.hp r) id b k->¬ mf k:=by
  intro id b k hb ho hk hm;obtain⟨id',_,h2,h3⟩:=(hmf k).1 hm;rcases hblk id b hb with h1|⟨x,c,_,_,g3,_,g4,g5⟩
  .exact h1.2 k hk
  .refine hI.sep _ _ c _ g3 h2 (λe=>?_) (g5 ho) k (g4 k hk) h3;rw[e,h2]at g3;simp only[qsI]at g3;have:=g5 ho;rw[<-g3]at this;cases this
 have hrep:∀ id b,look (J.dfrs D).hp id=some b->QL r2 id w b:=by
  intro id b hb;rcases hlk id b hb with ⟨rfl,rfl⟩|⟨h1,h2,h3⟩
  .intro k hk;rw[hrD]at hk;obtain⟨id',_,q2,q3⟩:=(hmf k).1 hk;exact hI.rep id' _ q2 k q3
  .have hb0:QL (Qs Q J.hp r) id w b:=by
    rcases hblk id b h2 with q|⟨_,_,_,_,_,q,_⟩
    .exact q.1
    .exact q
   exact hb0.keep hcong (hr2 id h1).symm (qlr _) h3 λ_ _ _=>rfl
 refine⟨λt=>a.tmps.getD t undef,⟨r2,?_⟩,?_⟩
 .refine⟨?_,?_,λt=>?_,hrep,λid b hb=>V3 hb,λid id' b b' hb hb' hne ho k hk hk'=>?_,λid hid=>?_,hI.fr,λid b hb ho k hk=>?_⟩
  .rw[hI.size,hs.len];exact(QEl _ _ _ _).symm
  .obtain⟨bs,d1,d2,d3⟩:=hI.defers;refine⟨bs,d1,d2,λb hb=>?_⟩;obtain⟨q0,id,q1,q2,q3⟩:=d3 b hb;refine⟨q0,D,hD,by simp[JSt.inst,JSt.dfrs,Kk,Blk.live],?_⟩
   rw[hrD];exact(hmf b).2 ⟨id,q1,q2,q3⟩
  .rw[hget];split
   .split
    .rename_i v hv;rw[hI.tm t];refine(hsame _ (jE hv)).trans (Jf hcong _ ?_);exact hf1 _ (jE hv)
    .rfl
   .rename_i hlt;rw[hI.tm t];have:QJ st.tm t = .tup []:=by unfold QJ;rw[List.getElem?_eq_none (by rw[hs.len];omega)];rfl
    rw[this];rfl
  .rcases hlk id b hb with ⟨rfl,rfl⟩|⟨h1,h2,h3⟩
   .cases ho
   .have hj:=(hfoot _ _ _ h1).1 hk;rcases hlk id' b' hb' with ⟨rfl,rfl⟩|⟨h1',h2',h3'⟩
    .have hj':(r2 id').foot k:=hk';rw[hrD]at hj';exact hmk id b k h2 ho hj hj'
    .have hj':=(hfoot _ _ _ h1').1 hk';rcases hblk id b h2 with q|⟨x,c,q1,q2,q3,_,q4,q5⟩
     .exact q.2 k hj
     .rcases hblk id' b' h2' with g1|⟨x',c',g1,g2,g3,_,g4,_⟩
      .exact g1.2 k hj'
      .exact hI.sep _ _ c c' q3 g3 (QJe hinj _ (Q7 h2) _ (Q7 h2') hne x x' q1 g1 q2 g2) (q5 ho) k (q4 k hj) (g4 k hj')
  .rw[hr2 id (by omega),<-hI.ext id hid]
   unfold Qs;cases hf:K1 Q id with
   | none=>rfl
   | some x=>
    have hp:=QG6 hf;obtain⟨l1,l2⟩:=QHQ hlow x (QH2 hf) (by rw[hp];omega)
    obtain⟨p,s,c⟩:=x;simp only at hp l1 l2;subst l1;subst l2;subst hp;rfl
  .rcases hlk id b hb with ⟨rfl,rfl⟩|⟨h1,h2,h3⟩
   .cases ho
   .have hk:=(hfoot _ _ _ h1).1 hk;rcases hblk id b h2 with q|⟨x,c,q1,q2,q3,_,q4,q5⟩
    .exact absurd hk (q.2 k)
    .exact hI.own _ c q3 (q5 ho) k (q4 k hk)
 .refine⟨λt=>?_,λid b hb=>?_,λid b hb=>?_⟩
  .rw[hget];split
   .split
    .rename_i v hv;exact hsc.1 _ (jE hv)
    .rfl
   .rfl
  .rcases hlk id b hb with ⟨rfl,rfl⟩|⟨h1,h2,h3⟩
   .exact hf3
   .exact(hsc.2 _ (Q7 h2)).1
  .rcases hlk id b hb with ⟨rfl,rfl⟩|⟨h1,h2,h3⟩
   .rfl
   .exact(hsc.2 _ (Q7 h2)).2
theorem Rep.subD{G:Ctx}{n n0 D:Nat}{ls:List Nat}{st:St}{J:JSt}{a:Act}{w:World}{ids:List Nat}{vals:List AV}(h:Rep G n st a w)(hs:JT n0 ls st.tm.length (ls.map (QJ st.tm)) (Kq ids vals st.hp) J)(hG:G.n<=n0)(hD:G.n<=D)(hf:js D J=true):∃ g,Rep G J.nid ((J.dfrs D).inst g) a w:=by
 obtain⟨⟨r,hI⟩,_⟩:=h;exact hI.subD (λid b hb=>Zq hb) hs hG hD hf
def zC(ids:List Nat)(ls:Ex->List Nat)(e:Ex)(st:St):QC := .leaf (.tup (QNV e :: .ptr st.tm.length 0 0::(ls e).map (QJ st.tm))) (Kq ids ((ls e).map (QJ st.tm)) st.hp)
theorem QhE{ids:List Nat}{ls:Ex->List Nat}{Cont:Nat->List AV->List (Nat×Blk)->Prop}{Out:Ex->Nat->List AV->List (Nat×Blk)->Prop}{e:Ex}{st:St}(h:(zC ids ls e st).den (QB1 Cont Out)):
  (e = .normal/\Cont st.tm.length ((ls e).map (QJ st.tm)) (Kq ids ((ls e).map (QJ st.tm)) st.hp))∨(e ≠ .normal/\Out e st.tm.length ((ls e).map (QJ st.tm)) (Kq ids ((ls e).map (QJ st.tm)) st.hp)):=by
 cases e with
 | normal=>exact .inl ⟨rfl,h⟩
 | exit id=>exact .inr ⟨by simp,h⟩
 | ret=>exact .inr ⟨by simp,h⟩
section
variable {σ:Type} (I:σ->JSt) (pre:σ->Prop) (μ:σ->Nat) (R:σ->Ex->JSt->Prop) (n0 D:Nat) (ls:Ex->List Nat) (ids:List Nat)
structure QEX (E:σ->(Nat->Value)->Env) (H:σ->(Nat->Value)->Hnd) (body:Code):Prop where
 round:∀ s g,pre s->Wd (QB1 (QID I pre μ R n0 ls s) (QF5 R n0 ls s)) (exec (E s g) (H s g) body (((I s).dfrs D).inst g) (zC ids ls))
variable {I pre μ R n0 D ls ids}
theorem QO7{E:σ->(Nat->Value)->Env}{P:Program}(hP:∀ s g,(E s g).P=P)(hE:∀ s g,pre s->(E s g).Sound){H:σ->(Nat->Value)->Hnd}{G:Ctx}(hG:G.n<=n0)(hD:G.n<=D){body:Code}(hH:∀ s g,pre s->Qx (E s g) G (H s g) body)(hn:∀ s,pre s->n0<=(I s).nid/\js D (I s)=true)(hR:∀ s e J,R s e J->n0<=J.nid/\js D J=true)(hr:QEX I pre μ R n0 D ls ids E H body){Q:Exit->Act->World->Prop}:∀(n:Nat) (s:σ) (g:Nat->Value) (a:Act) (w:World),μ s<n->pre s->Rep G (I s).nid (((I s).dfrs D).inst g) a w ->
  (∀ e J g a' w',R s e J->n0<=J.nid->Rep G J.nid ((J.dfrs D).inst g) a' w'->Q e.to a' w')->Code.roundsIn (FW G.rd) 0 P body Q n a w
 | 0,s,g,a,w,hm,_,_,_=>by omega
 | n+1,s,g,a,w,hm,hp,hrep,hQ=>by
  rw[roundsIn_succ];have hh:=hH s g hp;have h0:=(hr.round s g hp).den;generalize H s g=Hs at hh h0;have hEs:=hE s g hp;have hPs:=hP s g;generalize E s g=Es at hh h0 hEs hPs;subst hPs;have key:J8 Es G body (exec Es Hs body):=jr hEs hh.call hh.yield body hh.loop;refine key (((I s).dfrs D).inst g) (zC ids ls) _ _ a w (Nat.le_trans hG (hn s hp).1) h0 hrep ?_;intro e st' a' w' hn' hden hrep';rcases QhE hden with ⟨rfl,s',h1,h2,h3,h4⟩|⟨hne,J,h1,h2⟩
  .obtain⟨g',hr'⟩:=hrep'.subD h4 hG hD (hn s' h1).2;exact QO7 hP hE hG hD hH hn hR hr n s' g' a' w' (by omega) h1 hr' (λe J g a' w' hR=>hQ e J g a' w' (h3 e J hR))
  .obtain⟨g',hr'⟩:=hrep'.subD h2 hG hD (hR _ _ _ h1).2;have:=hQ e J g' a' w' h1 (hR _ _ _ h1).1 hr';cases e with
   | normal=>exact absurd rfl hne
   | exit id=>exact this
   | ret=>exact this
end
def QE8(n0:Nat)(ids:List Nat)(J0:JSt)(X:List (Prop×Ex×JSt))(st:St)(K:Ex->St->QC):QC:=
 match Nat.beq st.tm.length J0.len with
 | true=>(match QE n0 ((J0.live.map (·.1)).map (QJ st.tm)) (Kq ids ((J0.live.map (·.1)).map (QJ st.tm)) st.hp) J0 with
  | some ps=>QAs ps (QA4 K X)
  | none => .fail "a loop's beginning")
 | false => .fail "a loop's slots"
theorem QRE{σ:Type}{I:σ->JSt}{pre:σ->Prop}{μ:σ->Nat}{R:σ->Ex->JSt->Prop}{n0 D:Nat}{ls:Ex->List Nat}{ids ids':List Nat}{E0:Env}{E:σ->(Nat->Value)->Env}(hP:∀ s g,(E s g).P=E0.P)(hE:∀ s g,pre s->(E s g).Sound){H:σ->(Nat->Value)->Hnd}{G:Ctx}(hG:G.n<=n0)(hD:G.n<=D){body:Code}(hH:∀ s g,pre s->Qx (E s g) G (H s g) body)(hn:∀ s,pre s->n0<=(I s).nid/\js D (I s)=true)(hR:∀ s e J,R s e J->n0<=J.nid/\js D J=true)(hr:QEX I pre μ R n0 D ls ids E H body){s0:σ}(hp:pre s0){X:List (Prop×Ex×JSt)}(hX:∀ e J,R s0 e J->∃ x∈X,x.1/\x.2.1=e/\x.2.2=J.dfrs D):
  J8 E0 G (.loop body) (QE8 n0 ids' (I s0) X):=by
 intro st K T Q a w hn' h hrep hQ;unfold QE8 at h;split at h
 rotate_left
 .exact h.elim
 rename_i hl;split at h
 rotate_left
 .exact h.elim
 rename_i ps hps;have hlen:=qnb hl;obtain⟨ha,hx⟩:=H5 h;have hso:JT n0 ((I s0).live.map (·.1)) st.tm.length (((I s0).live.map (·.1)).map (QJ st.tm)) (Kq ids' (((I s0).live.map (·.1)).map (QJ st.tm)) st.hp) (I s0):={ slots:=rfl,len:=hlen,eqs:=⟨ps,hps,ha⟩ };obtain⟨g,hr'⟩:=hrep.subD hso hG hD (hn s0 hp).2;refine wpIn_loop_rounds (μ s0+1) (QO7 hP hE hG hD hH hn hR hr _ s0 g a w (Nat.lt_succ_self _) hp hr' ?_);intro e J g' a' w' hRe hnJ hrJ;obtain⟨x,h1,h2,h3,h4⟩:=hX e J hRe;have:=QAW hx x h1 h2 g';rw[h3,h4]at this
 exact hQ e ((J.dfrs D).inst g') a' w' (Nat.le_trans hG hnJ) this hrJ
end Go.SX
namespace Go.Proofs.YtekbmehgcofnkaaGreat
open Go.SX Go.SX.Told
def Q1(c:Code):Code×Code:=match Kz c with
 | .rangeFunc _ _ ac body::_=>(ac,body)
 | _=>(.skip,.skip)
