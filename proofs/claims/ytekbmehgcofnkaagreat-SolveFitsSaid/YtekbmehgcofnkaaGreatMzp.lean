/- - -/
import Derived.Test.YtekbmehgcofnkaaGreatMzo
import Derived.Shelf.SlSortCmp.WholeK
import Derived.Shelf.SlicesG.Cmp
import Derived.Shelf.Small.Bits
import Derived.Ground.SlsfProg
import Derived.Ground.SlgcProg
import Derived.Ground.NamesProg
import Derived.Shelf.SlSortCmp.NoneTotal
open Go.Proofs.Tryz
open Go.IntKind (i64)
set_option maxRecDepth 100000
namespace Go.Proofs.YtekbmehgcofnkaaGreat
open Go.SX Go.SX.Told
variable (d:Puz)(p q:Int)(E:ECt)(l:List Lay)(k z z':Nat)(v:Bool)
def Kj:List Lay:=(l.take k).map (swS p q)++l.drop k
theorem QGs:(Kj p q l k).length=l.length:=by
 unfold Kj;rw[List.length_append,List.length_map,List.length_take,List.length_drop];omega
theorem QIy{p q:Int}{l:List Lay}{k i:Nat}(h:i<k)(hi:i<l.length):(Kj p q l k).getD i ⟨0,0⟩=swS p q (l.getD i ⟨0,0⟩):=by
 unfold Kj;rw[List.getD_eq_getElem?_getD,List.getElem?_append_left (by rw[List.length_map,List.length_take];omega),List.getElem?_map,List.getElem?_take,if_pos h,List.getElem?_eq_getElem hi,Xe hi]
 rfl
theorem QB5{p q:Int}{l:List Lay}{k i:Nat}(h:k<=i)(hk:k<=l.length):(Kj p q l k).getD i ⟨0,0⟩=l.getD i ⟨0,0⟩:=by
 unfold Kj;rw[List.getD_eq_getElem?_getD,List.getD_eq_getElem?_getD,List.getElem?_append_right (by rw[List.length_map,List.length_take];omega),List.length_map,List.length_take,List.getElem?_drop]
 congr 2;omega
theorem QLQ{p q:Int}{l:List Lay}{k:Nat}{r:Int}(hk:k<l.length)(h:swS p q (l.getD k ⟨0,0⟩)=⟨r,(l.getD k ⟨0,0⟩:Lay).turn⟩):QB 2 (Kj p q l (k+1)).length (λi=>bif decide (i=k)then KZ [.int false .i64 r] 0 (QA.enc ((Kj p q l k).getD k (⟨0,0⟩:Lay)))else QA.enc ((Kj p q l k).getD i (⟨0,0⟩:Lay))) λi=>QA.enc ((Kj p q l (k+1)).getD i (⟨0,0⟩:Lay)):=by
 intro i hi;rw[QGs]at hi;show eqF 2 0 _ (QA.enc ((Kj p q l (k+1)).getD i (⟨0,0⟩:Lay)))
 by_cases e:i=k
 .subst e;rw[QIy (Nat.lt_succ_self _) hk,h,QB5 (qlr _) (Nat.le_of_lt hk)];simp only[decide_true,cond_true];exact⟨rfl,rfl,trivial⟩
 .have e2:(Kj p q l (k+1)).getD i ⟨0,0⟩=(Kj p q l k).getD i ⟨0,0⟩:=by
   rcases Nat.lt_or_ge i k with h1|h1
   .rw[QIy (by omega) hi,QIy h1 hi]
   .rw[QB5 (by omega) (by omega),QB5 h1 (by omega)]
  rw[e2];simp only[e,decide_false,cond_false];exact⟨rfl,rfl,trivial⟩
theorem QXL{p q:Int}{l:List Lay}{k:Nat}(hk:k<l.length)(h:swS p q (l.getD k ⟨0,0⟩)=l.getD k ⟨0,0⟩):Kj p q l (k+1)=Kj p q l k:=by
 unfold Kj;rw[Xe hk]at h;rw[List.take_succ_eq_append_getElem hk,List.map_append,List.append_assoc,List.map_cons,List.map_nil,h];congr 1;rw[List.singleton_append,<-List.drop_eq_getElem_cons hk]
def QVH(_:Nat)(e:Ex)(J:JSt):Prop:=e = .exit 0/\J=swE (l.map (swS p q))
theorem Qd0(hl:l.length<=1000):Jd (λk=>swJ p q (Kj p q l k) k) (λk=>k<=l.length) (λk=>l.length-k) (QVH p q l) 8 QNJ [] (λ_=>mkE prog QT) (λ_=>hnd (mkE prog QT) 1) (QJ f63 0):=by
 refine⟨λk g0 hk=>?_⟩;have hk:k<=l.length:=hk;have hlen:=QGs p q l k;have hlen2:=QGs p q l (k+1);have hx:=QB5 (p:=p) (q:=q) (l:=l) (qlr k) hk;have et:=QTw p q (Kj p q l k) k g0;refine Qf et ?_;clear et;refine QF (λb0=>?_) (λb0=>?_);have h:k<l.length:=by have:=qdt b0;omega
 have hw:=Ju h hl
 iterate 2 (refine QH ?_ ?_;rotate_left)
 refine QF ?_ ?_<;>intro b1
 iterate 2 (refine QH ?_ ?_;rotate_left)
 have e1:((l.getD k ⟨0,0⟩:Lay).piece==p)=true:=by rw[<-hx];exact b1
 have hs:swS p q (l.getD k ⟨0,0⟩)=⟨q,(l.getD k ⟨0,0⟩:Lay).turn⟩:=by unfold swS;rw[e1];rfl
 have hr:=QLQ h hs;have hq:(Kj p q l k).length=(Kj p q l (k+1)).length:=by omega
 refine⟨k+1,h,by show l.length-(k+1)<l.length-k;omega,λ_ _ r=>r,rfl,rfl,_,QSm p q (Kj p q l k) (Kj p q l (k+1)) k (k+1),?_⟩
 rotate_left
 refine QF ?_ ?_<;>intro b2
 iterate 2 (refine QH ?_ ?_;rotate_left)
 have e1:((l.getD k ⟨0,0⟩:Lay).piece==p)=false:=by rw[<-hx];exact b1
 have e2:((l.getD k ⟨0,0⟩:Lay).piece==q)=true:=by rw[<-hx];exact b2
 have hs:swS p q (l.getD k ⟨0,0⟩)=⟨p,(l.getD k ⟨0,0⟩:Lay).turn⟩:=by unfold swS;rw[e1,e2];rfl
 have hr:=QLQ h hs;have hq:(Kj p q l k).length=(Kj p q l (k+1)).length:=by omega
 refine⟨k+1,h,by show l.length-(k+1)<l.length-k;omega,λ_ _ r=>r,rfl,rfl,_,QZZ p q (Kj p q l k) (Kj p q l (k+1)) k (k+1),?_⟩
 rotate_left
 have e1:((l.getD k ⟨0,0⟩:Lay).piece==p)=false:=by rw[<-hx];exact b1
 have e2:((l.getD k ⟨0,0⟩:Lay).piece==q)=false:=by rw[<-hx];exact b2
 have hs:swS p q (l.getD k ⟨0,0⟩)=l.getD k ⟨0,0⟩:=by unfold swS;rw[e1,e2];rfl
 have hm:=QXL h hs;refine⟨k+1,h,by show l.length-(k+1)<l.length-k;omega,λ_ _ r=>r,?_⟩
 show JL 8 _ _ _ _ (swJ p q (Kj p q l (k+1)) (k+1));rw[hm];refine⟨rfl,rfl,_,Qc1 p q (Kj p q l k) k (k+1),?_⟩
 rotate_left
 have h:l.length<=k:=by have:=qdf b0;omega
 have hm:Kj p q l k=l.map (swS p q):=by unfold Kj;rw[List.take_of_length_le h,List.drop_eq_nil_of_le h,List.append_nil]
 rw[hm];refine⟨_,⟨rfl,rfl⟩,rfl,rfl,_,QUm (l.map (swS p q)),?_⟩
 rotate_left
 all_goals first|((with_reducible show _=true);(first|rfl|(simp;omega)))|(repeat' first|with_reducible refine QP ?_ ?_|exact tv|with_reducible exact qRr|exact hw|exact hq|exact congrArg (λn:Nat=>(n:Int)) hq|exact Nat.le_of_eq hq.symm|exact hr|exact rfl|refine aI ?_ ?_)
theorem Qas(pb:List Prop->Bool)(l:List Lay)(p q:Int)(hT:Qe (qY pb l))(hl:l.length<=1000)(G:Ctx)(hrd:G.rd=none)(hG:G.n=8):Qu (mkE prog (qY pb l)) G (swH prog pb l p q [(True,.exit 0,swE (l.map (swS p q)))]) (Qp f63):=by
 refine KM (body:=QJ f63 0) (QQ hT) hrd (by kernel_rfl) ?_
 have h0:swJ p q l 0=swJ p q (Kj p q l 0) 0:=by
  have:Kj p q l 0=l:=by unfold Kj;simp
  rw[this]
 rw[h0];refine Jt (E0:=mkE prog (qY pb l)) (E:=λ_:Nat=>mkE prog QT) (H:=λ_=>hnd (mkE prog QT) 1) (n0:=8) (s0:=0) (λ_=>rfl) (λ_=>QQ Qd) (by omega) (λk _=>Q1 (QQ Qd) 1 G _ hrd) (λk _=>(by decide:8<=24)) ?_ (Qd0 p q l hl) (Nat.zero_le _) ?_
 .rintro k e J ⟨_,rfl⟩;exact(by decide:8<=24)
 .rintro e J ⟨rfl,rfl⟩;exact⟨_,qmc,trivial,rfl,rfl⟩
theorem QeJ(p q:Int)(v:List Lay):(swU l p q v).Ok:=by
 refine⟨(by decide:0<=8),rfl,rfl,?_,rfl,λnid h=>?_,λnid h=>?_⟩
 .intro x hx;simp only[UC.po,swU,rwY,List.mem_cons,List.not_mem_nil,or_false]at hx;subst hx;exact⟨rfl,rfl,rfl,λh=>absurd (show 8<0 from h) (by decide)⟩
 .have e0:=KW 0 8 0 nid (by decide)
  simp only[UC.va,swU,AV.mapId,Nat.add_zero]at e0 ⊢;rw[e0]
 .have e0:=KW 0 8 0 nid (by decide)
  simp only[UC.po,swU,rwY,List.map_cons,List.map_nil,Blk.mapId,Nat.add_zero]at e0 ⊢;rw[e0]
theorem QXe(p q:Int)(hp:0<l.length)(hl:l.length<=1000):QR prog 63 (uFC (swU l p q (l.map (swS p q)))):=by
 have hT:Qe (qY QO l):=Qd.add (QR4 l hp hl);refine Ks (c:=Qp f63) (E:=mkE prog (qY QO l)) (QQ hT) func63 (by kernel_rfl) (by kernel_rfl) (QeJ ..) (λG h1 h2=>Qas QO l p q hT hl G h1 (by rw[h2];rfl)) ⟨?_⟩
 have et:=Qew QO l p q (l.map (swS p q));refine Qf et ?_;clear et;refine QH ?_ ?_;rotate_left
 iterate 12 refine Qt (by first|exact tv|with_reducible exact qRr|exact rfl) ?_
 refine Qj λa0=>?_;refine Qk λg0=>?_;refine⟨rfl,rfl,_,QWD l p q (l.map (swS p q)),?_⟩
 rotate_left
 all_goals first|((with_reducible show _=true);(first|(refine Q6.2 ?_;repeat' first|with_reducible refine QP ?_ ?_|exact tv|with_reducible exact qRr|exact rfl|refine aI ?_ ?_)|(simp;omega)))|(repeat' first|with_reducible refine QP ?_ ?_|exact tv|with_reducible exact qRr|exact rfl|refine aI ?_ ?_)
def bdZ(a z:Nat):Nat×Blk:=(288,.cells 0 152 (KR d++[.map 289,.slz a 0 z (.of 0)]))
def iqS:List (Nat×AV):=[(0,.ptr 288 0 0),(1,.slz 320 0 l.length (.of 0)),(7,.slz 320 0 l.length (.of 0)),(8,.int false .i64 l.length),(9,.int false .i64 k)]
def iqJ(z k:Nat):JSt:=⟨34,iqS l k,[bdZ d 328 z,(289,.mp E.1 E.2),rwY 320 l]++Ql.blk 0 d.ps,336⟩
def GY:JSt:=⟨34,[(4,.bool false false)],[bdZ d 328 z,(289,.mp E.1 E.2)],336⟩
def QBV:JSt:=⟨34,[],[bdZ d 328 z,(289,.mp E.1 E.2)],336⟩
def QNk:Ex->List Nat
 | .normal=>[0,1,7,8,9]
 | .exit _=>[]
 | .ret=>[4]
def QIu(pb:List Prop->Bool)(d:Puz)(E:ECt)(L:List Lay)(x:Lay)(v:Bool):Tab:=Qc (Qc QT 52 (KB pb (tnU d L.length x.piece))) 105 (KB pb (mzU d E L x v))
noncomputable abbrev Gc:Nat×Blk:=
  (288,.cells 0 152 (List.append (waf d) ([.map 289,.slz 320 0 k cO])))
noncomputable abbrev ja:Nat×Blk:=
  (0,.frz (List.append (waa) ((List.append (waG) ((List.append (wbk) ([.int .i64])))))) d.ps.n λi=>QA.enc (d.ps.get i))
noncomputable abbrev zP:Nat×Blk:=
  (320,.rowz true 49 kB l.length λi=>QA.enc (l.getD i (Lay.mk (0:Int) (0:Int))))
noncomputable abbrev QPb(d:Puz)(z:Nat):List (Nat×Blk):=
  [(288,.cells 0 152 (List.append (waf d) ([.map 289,.slz 328 0 z cO]))),(289,.mp E.1 E.2),(ja d)]
theorem Qd7(pb:List Prop->Bool)(d:Puz)(E:ECt)(l L:List Lay)(v:Bool)(z k:Nat)(g:Nat->Value):exec (mkE prog (QIu pb d E L (l.getD k ⟨0,0⟩) v)) (hnd (mkE prog (QIu pb d E L (l.getD k ⟨0,0⟩) v)) 1) (QJ f62 0) (JSt.inst (iqJ d E l z k) g) (Q9 [288, 289] QNk) = .br (decide ((k:Int)<(l.length:Int))) (.need (decide ((0:Int)<=(k:Int)/\(k:Int)<(l.length:Int))&&decide (l.length<=l.length)) (.need (decide (k<l.length)) (.need (decide ((0:Int)<=(k:Int)/\k<=l.length-0)) (.need (pb (([0=0,0=0,(l.getD k (Lay.mk (0:Int) (0:Int))).piece=(l.getD k (Lay.mk (0:Int) (0:Int))).piece]++wab d++([cO=cO,0=0,k=L.length,cO=cO]++wae d)))) (.br (decide ((l.getD k (Lay.mk (0:Int) (0:Int))).turn≥tnV d (l.getD k (Lay.mk (0:Int) (0:Int))).piece)) (.leaf (.tup [.nili,.ptr 34 0 0,.bool true false]) ([(Gc d k),(289,.mp E.1 E.2),(ja d),(zP l)])) (.need (pb (([0=0,0=0,(l.getD k (Lay.mk (0:Int) (0:Int))).piece=(l.getD k (Lay.mk (0:Int) (0:Int))).piece,(l.getD k (Lay.mk (0:Int) (0:Int))).turn=(l.getD k (Lay.mk (0:Int) (0:Int))).turn]++wab d++([cO=cO,0=0,k=L.length,cO=cO,L.length<=l.length,QB 2 L.length (λi=>QA.enc (l.getD i (Lay.mk (0:Int) (0:Int)))) λi=>QA.enc (L.getD i (Lay.mk (0:Int) (0:Int))),E.1=E.1,E.2=E.2]++wae d)))) (.br (!v) (.leaf (.tup [.nili,.ptr 34 0 0,.bool true false]) ([(Gc d k),(289,.mp E.1 E.2),(ja d),(zP l)])) (.leaf (.tup [.nilp,.ptr 34 0 0,.ptr 288 0 0,.slz 320 0 l.length cO,.slz 320 0 l.length cO,vi (l.length:Int),vi (i64.wrap ((k:Int)+1))]) ([(Gc d k),(289,.mp E.1 E.2),(zP l),(ja d)]))))))))) (.leaf (.tup [.ptr 0 0 0,.ptr 34 0 0]) ((QPb E d z))):=by kernel_rfl
abbrev QKd(d:Puz)(k:Nat)(z':Nat):List Prop:=
  ([false=false]++wab d++[cO=cO,0=0,k=z',cO=cO,E.1=E.1,E.2=E.2])
theorem QeI :QG 320 [.bool true false] ([(Gc d k),(289,.mp E.1 E.2),(ja d),(zP l)]) (GY d E z')=(some (QKd E d k z')):=by kernel_rfl
theorem Qb9 :QG 320 [.bool true false] ([(Gc d k),(289,.mp E.1 E.2),(ja d),(zP l)]) (GY d E z')=(some (QKd E d k z')):=by kernel_rfl
abbrev QPh:List Prop:=
  (wab d++[cO=cO,0=0])
theorem Qcw(z' k k':Nat):QG 320 [.ptr 288 0 0,.slz 320 0 l.length cO,.slz 320 0 l.length cO,vi (l.length:Int),vi (i64.wrap ((k:Int)+1))] ([(Gc d k),(289,.mp E.1 E.2),(zP l),(ja d)]) (iqJ d E l z' k')=(some (((wcX l++[0=0])++wcT l++[i64.wrap ((k:Int)+1)=(k':Int)])++(QPh d)++(([k=z',cO=cO,E.1=E.1,E.2=E.2]++wag l)++wae d))):=by kernel_rfl
theorem QUQ :QG 320 [] ((QPb E d z)) (QBV d E z)=(some ((QPh d)++[z=z,cO=cO,E.1=E.1,E.2=E.2])):=by kernel_rfl
def iqU(z':Nat):UC:=⟨296,⟨2,[(0,.ptr 288 0 0),(1,.slz 304 0 l.length (.of 0))],[bdZ d 312 z,(289,.mp E.1 E.2),rwY 304 l]++Ql.blk 0 d.ps,320⟩,λ_=>.bool false v,λm=>[bdZ d m z',(289,.mp E.1 E.2)]⟩
abbrev iqH(P:Program)(d:Puz)(E:ECt)(l:List Lay)(z:Nat)(X:List (Prop×Ex×JSt)):Hnd:={ hnd (mkE P QT) 1 with loop:=λ_=>KE 320 [288,289] (iqJ d E l z 0) X }
theorem QZE(A B:Prop)(z1 z2:Nat)(v:Bool)(z':Nat):VF (mkE prog QT) (iqH prog d E l z [(A,.ret,GY d E z1),(B,.exit 0,QBV d E z2)]) f62 (iqU d E l z v z') = .ak (((wcX l++[0=0])++wcT l++[(0:Int)=0])++wab d++(([cO=cO,0=0,z=z,cO=cO,E.1=E.1,E.2=E.2]++wag l)++wae d)) (.both (.asm (A) (.all (λ(g0:Nat->Value)=>.leaf (.bool false false) ([(288,.cells 0 152 (List.append (waT d) ((List.append (wbZ d) ([.slz 328 0 z1 cO]))))),(289,.mp E.1 E.2)])))) (.asm (B) (.all (λ(g1:Nat->Value)=>.leaf (.bool true true) ([(288,.cells 0 152 (List.append (waT d) ((List.append (wbZ d) ([.slz 328 0 z2 cO]))))),(289,.mp E.1 E.2)]))))):=by kernel_rfl
theorem Qco(z z1:Nat)(v:Bool)(z':Nat):QG 320 [(AV.bool false false)] ([((288:Nat),Blk.cells (0:Nat) (152:Nat) (List.append (waT d) ([AV.bool false d.turn,AV.slz (0:Nat) (0:Nat) d.ps.n cO,AV.map (289:Nat),AV.slz (328:Nat) (0:Nat) z1 cO]))),((289:Nat),Blk.mp E.1 E.2)]) (KP (iqU d E l z v z'))=( some ([false=v]++wab d++[cO=cO,0=0,z1=z',cO=cO,E.1=E.1,E.2=E.2])):=by kernel_rfl
theorem QUJ(z z2:Nat)(v:Bool)(z':Nat):QG 320 [(AV.bool true true)] ([((288:Nat),Blk.cells (0:Nat) (152:Nat) (List.append (waT d) ([AV.bool false d.turn,AV.slz (0:Nat) (0:Nat) d.ps.n cO,AV.map (289:Nat),AV.slz (328:Nat) (0:Nat) z2 cO]))),((289:Nat),Blk.mp E.1 E.2)]) (KP (iqU d E l z v z'))=( some ([true=v]++wab d++[cO=cO,0=0,z2=z',cO=cO,E.1=E.1,E.2=E.2])):=by kernel_rfl
def Xm:Bool:=decide ((l.getD k ⟨0,0⟩:Lay).turn≥tnV d (l.getD k ⟨0,0⟩:Lay).piece) || !Q0 d E (l.take k) (l.getD k ⟨0,0⟩)
def YK(n z k:Nat):Nat:=cond (decide (k<n)) (n-1) z
def jg(k:Nat×Nat)(e:Ex)(J:JSt):Prop:=match QX (Xm d E l) (l.length-k.1) k.1 with
 | some i=>e = .ret/\J=GY d E i
 | none=>e = .exit 0/\J=QBV d E (YK l.length k.2 k.1)
open Classical in
noncomputable def qc(P:Program)(d:Puz)(E:ECt)(l:List Lay)(k:Nat×Nat):Env:=mkE P (QIu (if k.1<l.length then QO else λ_=>false) d E (l.take k.1) (l.getD k.1 ⟨0,0⟩) (Q0 d E (l.take k.1) (l.getD k.1 ⟨0,0⟩)))
theorem Qed{d:Puz}{E:ECt}(hd:KI d)(hE:WfE E){l:List Lay}(hl:l.length<=1000)(hL:∀ y∈l,KC d y)(k:Nat×Nat):(qc prog d E l k).Sound:=by
 unfold qc
 by_cases h:k.1<l.length
 .rw[if_pos h];exact QQ ((Qd.add (YL d _ _)).add (Qet d E (l.take k.1) (l.getD k.1 ⟨0,0⟩) hd hE (by rw[List.length_take];omega) (λy hy=>hL y (List.mem_of_mem_take hy)) (by rw[Xe h];exact hL _ (List.getElem_mem h))))
 .rw[if_neg h];exact QQ ((Qd.add (JY (by kernel_rfl) _)).add (JY (by kernel_rfl) _))
theorem QS3(hk:k<=l.length):QB 2 (l.take k).length (λi=>QA.enc (l.getD i (⟨0,0⟩:Lay))) λi=>QA.enc ((l.take k).getD i (⟨0,0⟩:Lay)):=by
 intro i hi;rw[List.length_take]at hi;show eqF 2 0 _ (QA.enc ((l.take k).getD i (⟨0,0⟩:Lay)))
 have e:(l.take k).getD i ⟨0,0⟩=l.getD i ⟨0,0⟩:=by
  rw[List.getD_eq_getElem?_getD,List.getD_eq_getElem?_getD,List.getElem?_take,if_pos (by omega)]
 rw[e];exact⟨rfl,rfl,trivial⟩
theorem QS6(hl:l.length<=1000):Jd (λk:Nat×Nat=>iqJ d E l k.2 k.1) (λk=>k.1<=l.length) (λk=>l.length-k.1) (jg d E l) 320 QNk [288,289] (qc prog d E l) (λk=>hnd (qc prog d E l k) 1) (QJ f62 0):=by
 refine⟨λk g0 hk=>?_⟩;obtain⟨k,z⟩:=k;have hk:k<=l.length:=hk;have htk:(l.take k).length=k:=by rw[List.length_take];omega
 have hit:∀(_:k<l.length),Xm d E l k=true->jg d E l (k,z) .ret (GY d E k):=by
  intro h hb;unfold jg;simp only[(VX h).1 hb,and_self]
 unfold qc;simp only;have et:=Qd7 (if k<l.length then QO else λ_=>false) d E l (l.take k) (Q0 d E (l.take k) (l.getD k ⟨0,0⟩)) z k g0
 refine Qf et ?_;clear et;refine QF (λb0=>?_) (λb0=>?_);have h:k<l.length:=by have:=qdt b0;omega
 have hf:=VX (p:=Xm d E l) h;have hw:=Ju h hl;have hr:=QS3 l k hk;rw[if_pos h]
 iterate 4 (refine QH ?_ ?_;rotate_left)
 refine QF (λb1=>?_) (λb1=>?_);have hb:Xm d E l k=true:=by unfold Xm;rw[show decide ((l.getD k ⟨0,0⟩:Lay).turn≥tnV d (l.getD k ⟨0,0⟩:Lay).piece)=true from b1];rfl
 refine⟨_,hit h hb,rfl,rfl,_,QeI d E l k k,?_⟩
 rotate_left
 refine QH ?_ ?_;rotate_left;refine QF (λb2=>?_) (λb2=>?_);have hb:Xm d E l k=true:=by unfold Xm;rw[show Q0 d E (l.take k) (l.getD k ⟨0,0⟩)=false by simpa using b2];simp
 refine⟨_,hit h hb,rfl,rfl,_,Qb9 d E l k k,?_⟩
 rotate_left
 .have hb:Xm d E l k=false:=by unfold Xm;rw[show decide ((l.getD k ⟨0,0⟩:Lay).turn≥tnV d (l.getD k ⟨0,0⟩:Lay).piece)=false from b1,show Q0 d E (l.take k) (l.getD k ⟨0,0⟩)=true by simpa using b2];rfl
  refine⟨(k+1,k),h,by show l.length-(k+1)<l.length-k;omega,λe J hr=>?_,rfl,rfl,_,Qcw d E l k k (k+1),?_⟩
  .unfold jg at hr ⊢;simp only at hr ⊢;rw[hf.2 hb]
   have hz:YK l.length k (k+1)=YK l.length z k:=by
    unfold YK;rw[show decide (k<l.length)=true from qde h]
    by_cases h2:k+1<l.length
    .rw[qde h2];rfl
    .rw[decide_eq_false h2];show k=l.length-1;omega
   rw[hz]at hr;exact hr
  .repeat' first|with_reducible refine QP ?_ ?_|exact tv|with_reducible exact qRr|exact hw|exact rfl|refine aI ?_ ?_
 have h:l.length<=k:=by have:=qdf b0;omega
 have hz:YK l.length z k=z:=by unfold YK;rw[decide_eq_false (by omega)];rfl
 refine⟨_,(by unfold jg;simp only[show l.length-k=0 by omega,QX,hz,and_self]),rfl,rfl,_,QUQ d E z,?_⟩
 rotate_left
 all_goals first|((with_reducible show _=true);(first|rfl|(refine Q6.2 ?_;repeat' first|with_reducible refine QP ?_ ?_|exact tv|with_reducible exact qRr|exact htk|exact htk.symm|exact Nat.le_of_eq htk|exact Nat.le_of_eq htk.symm|exact Nat.le_trans (Nat.le_of_eq htk) hk|exact hr|exact rfl|refine aI ?_ ?_)|(simp;done)|(simp;omega)))|(repeat' first|with_reducible refine QP ?_ ?_|exact tv|with_reducible exact qRr|exact rfl|refine aI ?_ ?_)
def iqF:Option Nat:=QX (Xm d E l) l.length 0
def Vw:Bool:=(iqF d E l).isNone
def iqZ:Nat:=match iqF d E l with
 | some i=>i
 | none=>YK l.length z 0
def iqX:List (Prop×Ex×JSt):=[((iqF d E l).isSome=true,.ret,GY d E ((iqF d E l).getD 0)),(iqF d E l=none,.exit 0,QBV d E (YK l.length z 0))]
theorem QYo{d:Puz}{E:ECt}(hd:KI d)(hE:WfE E){l:List Lay}(hl:l.length<=1000)(hL:∀ y∈l,KC d y)(z:Nat)(G:Ctx)(hrd:G.rd=none)(hG:G.n=320):Qu (mkE prog QT) G (iqH prog d E l z (iqX d E l z)) (Qp f62):=by
 refine KM (body:=QJ f62 0) (QQ Qd) hrd (by kernel_rfl) ?_
 have hEnv:=Qed hd hE hl hL;refine Jt (E0:=mkE prog QT) (E:=qc prog d E l) (H:=λk=>hnd (qc prog d E l k) 1) (n0:=320) (s0:=(0,z)) (λ_=>rfl) hEnv (by omega) (λk _=>Q1 (hEnv k) 1 G _ hrd) (λk _=>(by decide:320<=336)) ?_ (QS6 d E l hl) (Nat.zero_le _) ?_
 .intro k e J h;unfold jg at h;split at h<;>(rw[h.2];exact(by decide:320<=336))
 .intro e J h;unfold jg at h;simp only[Nat.sub_zero]at h;unfold iqX;cases hf:iqF d E l with
  | some i=>rw[show QX (Xm d E l) l.length 0=some i from hf]at h;exact⟨_,qmc,rfl,h.1.symm,h.2.symm⟩
  | none=>rw[show QX (Xm d E l) l.length 0=none from hf]at h;exact⟨_,List.mem_cons_of_mem _ qmc,rfl,h.1.symm,h.2.symm⟩
theorem QfG(z':Nat):(iqU d E l z v z').Ok:=by
 refine⟨(by decide:296<=320),rfl,rfl,?_,rfl,λ_ _=>rfl,λnid h=>?_⟩
 .intro q hq;simp only[UC.po,iqU,bdZ,List.mem_cons,List.not_mem_nil,or_false]at hq;rcases hq with rfl|rfl<;>exact⟨rfl,rfl,rfl,λ_=>rfl⟩
 .have e0:=KW 296 320 0 nid (by decide)
  simp only[UC.po,iqU,bdZ,KR,Ql.val,List.cons_append,List.nil_append,List.map_cons,List.map_nil,Blk.mapId,AV.mapId,AV.mapIdL,Nat.add_zero]at e0 ⊢;rw[e0];rfl
theorem QWj{d:Puz}{E:ECt}(hd:KI d)(hE:WfE E){l:List Lay}(hl:l.length<=1000)(hL:∀ y∈l,KC d y)(z:Nat):QR prog 62 (uFC (iqU d E l z (Vw d E l) (iqZ d E l z))):=by
 refine Ks (c:=Qp f62) (E:=mkE prog QT) (QQ Qd) func62 (by kernel_rfl) (by kernel_rfl) (QfG ..) (λG h1 h2=>QYo hd hE hl hL z G h1 (by rw[h2];rfl)) ⟨?_⟩
 have et:=QZE d E l z ((iqF d E l).isSome=true) (iqF d E l=none) ((iqF d E l).getD 0) (YK l.length z 0) (Vw d E l) (iqZ d E l z);refine Qf et ?_;clear et
 iterate 30 refine Qt (by first|exact tv|with_reducible exact qRr|exact rfl) ?_
 refine Kl ?_ ?_;refine Qj λa0=>?_;refine Qk λg0=>?_
 .have hv:Vw d E l=false:=by unfold Vw;cases hf:iqF d E l with
   | none=>rw[hf]at a0;cases a0
   | some i=>rfl
  have hz:(iqF d E l).getD 0=iqZ d E l z:=by unfold iqZ;cases hf:iqF d E l with
   | none=>rw[hf]at a0;cases a0
   | some i=>rfl
  rw[hv,<-hz];refine⟨rfl,rfl,_,Qco d E l z ((iqF d E l).getD 0) false ((iqF d E l).getD 0),?_⟩
  repeat' first|with_reducible refine QP ?_ ?_|exact tv|with_reducible exact qRr|exact rfl|refine aI ?_ ?_
 refine Qj λa1=>?_;refine Qk λg1=>?_;have hv:Vw d E l=true:=by unfold Vw;rw[a1];rfl
 have hz:YK l.length z 0=iqZ d E l z:=by unfold iqZ;rw[a1]
 rw[hv,<-hz];refine⟨rfl,rfl,_,QUJ d E l z (YK l.length z 0) true (YK l.length z 0),?_⟩
 rotate_left
 all_goals (repeat' first|with_reducible refine QP ?_ ?_|exact tv|with_reducible exact qRr|exact rfl|refine aI ?_ ?_)
structure Tw where
 a:Int
 b:Int
instance : QA Tw where
  ks := [.int .i64,.int .i64]
  enc p j := match j with
    | 0 => p.a
    | _ => p.b
  dec f := ⟨f 0,f 1⟩
  ok _ := rfl
instance : Enc Tw where
  enc x := .agg [.int false .i64 x.a,.int false .i64 x.b]
  dec | .agg [.int _ .i64 a0,.int _ .i64 a1] => some ⟨a0,a1⟩ | _ => none
  ok v x h := by
    split at h <;> (try (cases h; done))
    simp only[qsI]at h; subst h; exact⟨λ_=>rfl,rfl⟩
def Jb(x y:Tw):Int:=orI (JM x.a y.a) (JM x.b y.b)
def H9:WF (Tw×Tw×Unit):=λ|(x,(y,_))=>(true,.int false .i64 (Jb x y),[])
def QZg:FC:=wFC H9
theorem QYU(x:Tw)(y:Tw):Ku (mkE prog VO) (hnd (mkE prog VO) 6) f65 (Qi.vals 0 ((x,y,()):Tw×Tw×Unit)) (Qi.blks 0 ((x,y,()):Tw×Tw×Unit)) 8=QC.need (true) (QC.br (JM x.a y.a != (0:Int)) (QC.leaf (vi (JM x.a y.a)) ([])) (QC.need (true) (QC.br (JM x.b y.b != (0:Int)) (QC.leaf (vi (JM x.b y.b)) ([])) (QC.leaf (vj (0:Int)) ([]))))):=by kernel_rfl
theorem QYe:Jw (mkE prog VO) (Qp f65) 8 H9 (λx_=>(hnd (mkE prog VO) 6)):=by
 refine⟨?_⟩;rintro⟨x,⟨y,⟨⟩⟩⟩ hp G h1 h2;exact Q1 (QQ jX) 6 G _ h1
theorem QS1:Jx (mkE prog VO) f65 8 H9 (λx_=>(hnd (mkE prog VO) 6)):=by
 refine⟨?_⟩;rintro⟨x,⟨y,⟨⟩⟩⟩ hp;refine⟨⟨rfl,by simp[H9],rfl⟩,⟨?_⟩⟩
 rw[QYU x y];simp only[H9]at hp;refine QH rfl ?_;refine QF ?_ ?_<;>intro b0
 .refine Kw ⟨rfl,?_⟩ rfl;show _=Jb x y;unfold Jb orI;rw[b0];rfl
 refine QH rfl ?_;refine QF ?_ ?_<;>intro b1
 .refine Kw ⟨rfl,?_⟩ rfl;show _=Jb x y;unfold Jb orI;rw[b0];rfl
 .refine Kw ⟨rfl,?_⟩ rfl;show _=Jb x y;unfold Jb orI;rw[b0];have:JM x.b y.b=0:=by simpa using b1
  rw[this];rfl
theorem Qfe:QR prog 65 QZg:=
 VL (QQ jX) func65 (by kernel_rfl) (by kernel_rfl) (by decide) QYe QS1
end Go.Proofs.YtekbmehgcofnkaaGreat
namespace Go.Proofs
open Go.Shelf
def Tryz.sortTw_ren:Go.Shelf.Ren:=⟨λ|6=>107|15=>139|14=>138|28=>165|29=>166|20=>157|21=>158|22=>159|23=>160|24=>161|25=>162|26=>163|27=>164|46=>173|47=>174|48=>175|49=>176|50=>177|57=>186|n=>n,λ|22=>36|24=>89|25=>110|3=>3|39=>115|0=>0|53=>224|55=>226|4=>4|46=>217|45=>216|50=>221|5=>5|9=>9|66=>235|70=>239|76=>246|77=>182|n=>n,λ|n=>n⟩
theorem Tryz.sortTw:Go.Proofs.SlLaysF0.n6 prog Tryz.sortTw_ren:={
 mixed:=by kernel_rfl
 f6:=⟨f107.name,by decide,func107.trans (congrArg some (by kernel_rfl))⟩
 f14:=⟨f138.name,by decide,func138.trans (congrArg some (by kernel_rfl))⟩
 f15:=func139.trans (congrArg some (by kernel_rfl))
 f20:=⟨f157.name,by decide,func157.trans (congrArg some (by kernel_rfl))⟩
 f21:=⟨f158.name,by decide,func158.trans (congrArg some (by kernel_rfl))⟩
 f22:=⟨f159.name,by decide,func159.trans (congrArg some (by kernel_rfl))⟩
 f23:=⟨f160.name,by decide,func160.trans (congrArg some (by kernel_rfl))⟩
 f24:=⟨f161.name,by decide,func161.trans (congrArg some (by kernel_rfl))⟩
 f25:=⟨f162.name,by decide,func162.trans (congrArg some (by kernel_rfl))⟩
 f26:=⟨f163.name,by decide,func163.trans (congrArg some (by kernel_rfl))⟩
 f27:=⟨f164.name,by decide,func164.trans (congrArg some (by kernel_rfl))⟩
 f28:=func165.trans (congrArg some (by kernel_rfl))
 f29:=func166.trans (congrArg some (by kernel_rfl))
 f46:=⟨f173.name,by decide,func173.trans (congrArg some (by kernel_rfl))⟩
 f47:=func174.trans (congrArg some (by kernel_rfl))
 f48:=func175.trans (congrArg some (by kernel_rfl))
 f49:=⟨f176.name,by decide,func176.trans (congrArg some (by kernel_rfl))⟩
 f50:=⟨f177.name,by decide,func177.trans (congrArg some (by kernel_rfl))⟩
 f57:=⟨f186.name,by decide,func186.trans (congrArg some (by kernel_rfl))⟩
 t0:=underlying0
 a0:=Tryz.isAgg0
 z0:=Tryz.sizeOf0
 v0:=Tryz.zeroValue0
 t3:=underlying3
 a3:=Tryz.isAgg3
 z3:=Tryz.sizeOf3
 v3:=Tryz.zeroValue3
 t4:=underlying4
 a4:=Tryz.isAgg4
 z4:=Tryz.sizeOf4
 v4:=Tryz.zeroValue4
 t5:=underlying5
 a5:=Tryz.isAgg5
 z5:=Tryz.sizeOf5
 v5:=Tryz.zeroValue5
 t9:=underlying9
 a9:=Tryz.isAgg9
 z9:=Tryz.sizeOf9
 v9:=Tryz.zeroValue9
 t22:=underlying36
 a22:=Tryz.isAgg36
 z22:=Tryz.sizeOf36
 v22:=Tryz.zeroValue36
 t25:=underlying110
 a25:=Tryz.isAgg110
 z25:=Tryz.sizeOf110
 v25:=Tryz.zeroValue110
 t39:=underlying115
 a39:=Tryz.isAgg115
 z39:=Tryz.sizeOf115
 v39:=Tryz.zeroValue115
 t45:=underlying216
 a45:=Tryz.isAgg216
 z45:=Tryz.sizeOf216
 v45:=Tryz.zeroValue216
 t46:=underlying217
 a46:=Tryz.isAgg217
 z46:=Tryz.sizeOf217
 v46:=Tryz.zeroValue217
 t50:=underlying221
 a50:=Tryz.isAgg221
 z50:=Tryz.sizeOf221
 v50:=Tryz.zeroValue221
 t53:=underlying224
 a53:=Tryz.isAgg224
 z53:=Tryz.sizeOf224
 v53:=Tryz.zeroValue224
 t55:=underlying226
 a55:=Tryz.isAgg226
 z55:=Tryz.sizeOf226
 v55:=Tryz.zeroValue226
 t66:=underlying235
 a66:=Tryz.isAgg235
 z66:=Tryz.sizeOf235
 v66:=Tryz.zeroValue235
 t70:=underlying239
 a70:=Tryz.isAgg239
 z70:=Tryz.sizeOf239
 v70:=Tryz.zeroValue239
 t76:=underlying246
 a76:=Tryz.isAgg246
 z76:=Tryz.sizeOf246
 v76:=Tryz.zeroValue246
 t77:=underlying182
 a77:=Tryz.isAgg182
 z77:=Tryz.sizeOf182
 v77:=Tryz.zeroValue182 }
end Go.Proofs
namespace Go.Proofs.YtekbmehgcofnkaaGreat
open Go Go.RowKit Go.Lib Go.Shelf Go.Sort Go.SX Go.SX.Told
instance : Inhabited Tw := ⟨⟨0,0⟩⟩
def K4(x:Tw):List Value:=[.int .i64 x.a,.int .i64 x.b]
def Xg(g:Nat->Nat->Int)(i:Nat):Tw:=⟨g i 0,g i 1⟩
def Jf(l:List Tw):List Tw:=l.mergeSort λx y=>!(ltOf Jb) y x
def Yd(n:Nat)(g:Nat->Nat->Int)(i:Nat):Nat->Int:=QA.enc ((Jf ((List.range n).map (Xg g))).getD i ⟨0,0⟩)
def ksT:List CK:=[.int .i64,.int .i64]
theorem Xb(x y:Tw):Jb x y<0↔x.a<y.a∨(x.a=y.a/\x.b<y.b):=by
 unfold Jb;simp only[QML,QLG,QN6]
theorem QOv:SWO (ltOf Jb) where
 irrefl x:=by simp only[ltOf,decide_eq_false_iff_not,Xb];omega
 trans x y z h1 h2:=by simp only[ltOf,qdE,Xb]at *;omega
 ntrans x y z h1 h2:=by simp only[ltOf,decide_eq_false_iff_not,Xb]at *;omega
theorem QKz(x y:Tw)(h1:(ltOf Jb) x y=false)(h2:(ltOf Jb) y x=false):x=y:=by
 simp only[ltOf,decide_eq_false_iff_not,Xb]at h1 h2;obtain⟨a,b⟩:=x;obtain⟨a',b'⟩:=y;simp only[Tw.mk.injEq]at *;omega
theorem QTR(blk off size:Nat)(w:World):CmpLays prog 65 #[] K4 2 Jb blk off size w:=by
 intro m os dk _ x y;generalize sortWorldK K4 2 w blk off m dk os=W;have h:=Qfe.2 [Enc.enc x,Enc.enc y] 0 [] (λ_=>SX.Loc.none 0) W (λ_=>none) [] ⟨false,true,.int false .i64 (Jb x y),[]⟩ ⟨λ_ _ h=>(by cases h),λ_ _ h=>(by cases h),λ_ _ h=>(by cases h),λ_ _ _ _ h=>(by cases h)⟩ rfl rfl rfl rfl
 refine h.mono ?_;rintro e w' ⟨r',rfl,hp⟩;refine⟨rfl,QRN ?_⟩;have hf:=hp.fr;refine⟨hf.os,hf.tape,hf.output,hf.size,hf.drawn,λk hk _=>hf.block k hk ?_⟩;rintro⟨p,hp,_⟩;cases hp
theorem QOs(r:Nat->SX.Loc)(n:Nat)(g:Nat->Nat->Int):AV.denL r (Q4 n (QV ksT g)).flatten=((List.range n).map (Xg g)).flatMap K4:=by
 rw[Qn,Q4,<-List.flatMap_def,List.map_flatMap,List.flatMap_map];rfl
theorem QXI(r:Nat->SX.Loc)(n:Nat)(g:Nat->Nat->Int):AV.denL r (Q4 n (QV ksT (Yd n g))).flatten=(Jf ((List.range n).map (Xg g))).flatMap K4:=by
 rw[QOs];congr 1;have hl:(Jf ((List.range n).map (Xg g))).length=n:=by unfold Jf;rw[List.length_mergeSort];simp
 apply List.ext_getElem
 .rw[hl];simp
 .intro i h1 h2;rw[List.getElem_map,List.getElem_range];exact(show Xg (Yd n g) i=(Jf ((List.range n).map (Xg g))).getD i ⟨0,0⟩from rfl).trans (Xe h2)
variable {w:World}
theorem QXn{b m:Nat}{os:Array Obj}{l l':List Tw}{rest:List Value}{ty:TypeId}(h:bk w b=some (.cells (l.flatMap K4++rest).toArray ty (0,0)))(hl:l.length=l'.length):
  bk (sortWorldK K4 2 w b 0 m l'.toArray os) b=some (.cells (l'.flatMap K4++rest).toArray ty (0,0))/\(∀ k,k<w.heap.size->k≠b->bk (sortWorldK K4 2 w b 0 m l'.toArray os) k=bk w k)/\w.heap.size<=(sortWorldK K4 2 w b 0 m l'.toArray os).heap.size:=by
 have hk:∀ x,(K4 x).length=2:=λ_=>rfl
 have hf:flatK K4 2 l'.toArray=(l'.flatMap K4).toArray:=by
  apply Array.ext';rw[QMf K4 2 hk]
 have hlen:(l.flatMap K4).length=(l'.flatMap K4).length:=by rw[qR K4 2 hk,qR K4 2 hk,hl]
 have hb:b<w.heap.size:=by
  unfold bk at h;exact(Array.getElem?_eq_some_iff.1 h).1
 unfold bk at h ⊢;unfold sortWorldK grow putRowK putRow mapBlock Sort.ahead;simp only[hf];refine⟨?_,λk hk1 hk2=>?_,by simp⟩
 .rw[Array.getElem?_append_left (by simpa using hb),Array.getElem?_modify,if_pos rfl,h]
  simp only[Option.map_some,onCells];rw[QKM _ _ _ hlen]
 .rw[Array.getElem?_append_left (by simpa using hk1),Array.getElem?_modify,if_neg (λe=>hk2 e.symm)]
theorem Qa6{b:Nat}{l:List Tw}{rest:List Value}{ty:TypeId}(h:bk w b=some (.cells (l.flatMap K4++rest).toArray ty (0,0))):HoldsK K4 2 w b 0 l.toArray:=by
 have hk:∀ x,(K4 x).length=2:=λ_=>rfl;intro j hj;rw[size_flatK]at hj;have hj:j<l.length*2:=by simpa using hj
 have e:((flatK K4 2 l.toArray)[j]!)=(K4 l[j / 2]!)[j % 2]! := by
  rw[get_flatK K4 2 _ j (by simpa using hj)];simp
 refine⟨?_,?_⟩
 .rw[V8 h,Nat.zero_add,List.getElem?_append_left (by rw[qR K4 2 hk];exact hj),QBx K4 2 hk l j hj,e]
  rfl
 .unfold World.frozen?;unfold bk at h;rw[h];simp
def QF4:FC:=λargs _ _=>match args with
 | [.slz id 0 n _,.fn (.func f) []]=>([id],λbs=>match Nat.beq f 65,bs with
  | true,[.rowz true ty [.int .i64,.int .i64] n' g]=>some ⟨false,decide (n=n')&&decide (n<4611686018427387904),.tup [],[(id,.rowz true ty [.int .i64,.int .i64] n (Yd n g))]⟩
  | _,_=>none)
 | [.nils,.fn (.func f) []]=>([],λbs=>match Nat.beq f 65,bs with
  | true,[]=>some ⟨false,true,.tup [],[]⟩
  | _,_=>none)
 | _=>([],λ_=>none)
theorem QHo(l:List Tw):(Jf l).length=l.length:=by unfold Jf;rw[List.length_mergeSort]
theorem QWg:∀ w,(isAgg 89).run prog w = .ok true w:=Tryz.isAgg89
theorem QVa:∀ w,(Go.sizeOf 89).run prog w = .ok 2 w:=Tryz.sizeOf89
theorem Qb0:QR prog 107 QF4:=by
 have hnone:∀(p:Option Addr) (cap:Nat) (fv:Value) (w:World),Calls prog 107 #[.slice p 0 cap,fv] w λe w'=>e = .returned (.tuple #[])/\w'=w:=AnyF.slices_SortFunc_none Tryz.sortTw;refine⟨by kernel_rfl,λargs nid all r w lk blks eff hH _ hv he hp=>?_⟩
 unfold QF4 at hv he;split at he<;>(try (cases he;done))
 rotate_left
 .rename_i f hx;simp only at he;split at he<;>(try (cases he;done))
  rename_i hf;have hf:f=65:=qnb hf;subst hf;simp only[qsI]at he;subst he;refine(hnone none 0 (.func (.func 65) #[] #[]) w).mono ?_;rintro e w' ⟨rfl,rfl⟩;exact⟨r,rfl,λ_ _=>rfl,λp hp=>(by cases hp),⟨rfl,rfl,rfl,qlr _,qlr _,λ_ _ _=>rfl⟩,λp hp=>(by cases hp),λp hp=>(by cases hp),λp hp=>(by cases hp)⟩
 rename_i id n c f hx;simp only at he;split at he<;>(try (cases he;done))
 rename_i ty n' g hf;have hf:f=65:=qnb hf;subst hf;simp only[qsI]at he;subst he;simp only[qbA,qdE]at hp;obtain⟨hn,hlt⟩:=hp;subst hn;have hlk:lk id=some (.rowz true ty [.int .i64,.int .i64] n g):=by simpa using hv
 have hlk:lk id=some (.rowz true ty ksT n g):=hlk;obtain⟨h0,h4,hfoot,hnil,hrow,hcells⟩:=(show Kb r id w ty ksT.length n (QV ksT g)from hH.rep _ _ hlk);have hout:=hH.out _ _ hlk;have hrow':∀ i,i<n->(QV ksT (Yd n g) i).length=ksT.length/\JK (QV ksT (Yd n g) i)=true:=λi _=>⟨Vp _ _ _,Jh _ _ _⟩;cases hN:(r id).nil with
 | true=>
  have hz:=hnil hN;subst hz;refine(hnone ((r id).base 0) ((r id).room (c.den (r id).cap)) (.func (.func 65) #[] #[]) w).mono ?_;rintro e w' ⟨rfl,rfl⟩;refine⟨r,rfl,λ_ _=>rfl,?_,⟨rfl,rfl,rfl,qlr _,qlr _,λ_ _ _=>rfl⟩,?_,?_,?_⟩
  .intro p hp;rw[List.mem_singleton.1 hp];exact⟨h0,h4,hfoot,hnil,λi hi=>absurd hi (Nat.not_lt_zero _),λq=>by rw[hN]at q;cases q⟩
  .intro p hp hin;rw[List.mem_singleton.1 hp]at hin;rw[hout]at hin;cases hin
  .intro p hp _ _ k hk;rw[List.mem_singleton.1 hp]at hk;rw[List.mem_singleton.1 hp];exact⟨_,hlk,hk⟩
  .intro p hp q _ hin;rw[List.mem_singleton.1 hp]at hin;rw[hout]at hin;cases hin
 | false=>
  obtain⟨hcap,rest,hrest,hbk⟩:=hcells hN;rw[QOs]at hbk
  have hb:(r id).blk<w.heap.size:=by
   unfold bk at hbk;exact(Array.getElem?_eq_some_iff.1 hbk).1
  have eg:∀ args w,(callFunc 65 args).run prog w = .ok (.enter 65 args) w:=enters_of func65 (by kernel_rfl) rfl
  have hd:((List.range n).map (Xg g)).toArray.size=n:=by simp
  have hcon:=AnyQ.slices_SortFunc Tryz.sortTw 2 QWg QVa K4 (λ_=>rfl) (λx v hv=>by simp[K4]at hv;rcases hv with rfl|rfl<;>rfl) Jb QOv 65 #[] (r id).blk 0 ((r id).room (c.den (r id).cap)) ((List.range n).map (Xg g)).toArray w eg (QTR _ _ _ _) (Qa6 hbk) hb (by rw[hd];exact hlt)
  rw[hd]at hcon
  have ha:AV.denL r [.slz id 0 n c,.fn (.func 65) []]=[.slice (some ⟨(r id).blk,0,none⟩) n ((r id).room (c.den (r id).cap)),.func (.func 65) #[] #[]]:=by
   simp only[AV.denL,AV.den,Loc.base,hN,h0,Nat.zero_mul,Nat.add_zero]
  rw[ha];refine hcon.mono ?_;rintro e w' ⟨rfl,d',m,os,hperm,hsort,rfl⟩;have hu:=sorted_unique_holds QOv QKz ((List.range n).map (Xg g)).toArray d' (by rw[hd];exact hperm) (by rw[hd];exact hsort)
  have hd':d'=(Jf ((List.range n).map (Xg g))).toArray:=Array.ext' (by rw[hu];rfl)
  subst hd';obtain⟨w1,w2,w3⟩:=QXn (m:=m) (os:=os) hbk (QHo _).symm;refine⟨r,rfl,λ_ _=>rfl,?_,⟨rfl,rfl,rfl,w3,Nat.le_add_right _ _,λk hk hc=>w2 k hk λe=>hc ⟨_,List.mem_singleton.2 rfl,hout,_,hlk,(hfoot k).2 ⟨hN,e⟩⟩⟩,?_,?_,?_⟩
  .intro p hp;rw[List.mem_singleton.1 hp];refine⟨h0,h4,hfoot,hnil,hrow',λ_=>⟨hcap,rest,hrest,?_⟩⟩;show bk _ _=some (.cells (AV.denL r (Q4 n (QV ksT (Yd n g))).flatten++rest).toArray ty (0,0));rw[QXI];exact w1
  .intro p hp hin;rw[List.mem_singleton.1 hp]at hin;rw[hout]at hin;cases hin
  .intro p hp _ _ k hk;rw[List.mem_singleton.1 hp]at hk;rw[List.mem_singleton.1 hp];exact⟨_,hlk,hk⟩
  .intro p hp q _ hin;rw[List.mem_singleton.1 hp]at hin;rw[hout]at hin;cases hin
def QN8:Tab:=Qc QT 107 QF4
theorem QT3:Qe QN8:=Qd.add Qb0
end Go.Proofs.YtekbmehgcofnkaaGreat
namespace Go.SX
open Go Go.RowKit Go.Proofs.YtekbmehgcofnkaaGreat
def JSt.dfrs(J:JSt)(D:Nat):JSt:=⟨J.len,J.live,(D,.dfr)::J.hp,J.nid⟩
def qf(D:Nat)(J:JSt):Bool:=J.live.all (λp=>p.2.all (λi=>i != D))&&(J.hp.all (λq=>q.1 != D&&q.2.all (λi=>i != D))&&decide (D<J.nid))
variable {w:World}
theorem Inv.subD{G:Ctx}{n0 D:Nat}{ls:List Nat}{st:St}{J:JSt}{a:Act}{r:Nat->Loc}{h':List (Nat×Blk)}(hI:Inv G st.tm.length r (QI st.tm) (look st.hp) a w)(hh:∀ id b,look h' id=some b->look st.hp id=some b)(hs:JL n0 ls st.tm.length (ls.map (QI st.tm)) h' J)(hG:G.n<=n0)(hD:G.n<=D)(hf:qf D J=true):∃ g,Rep G J.nid ((J.dfrs D).inst g) a w:=by
 obtain⟨ps0,hsub,hall⟩:=hs.eqs;unfold QG at hsub;simp only at hsub;generalize Z0 n0 _ _ _ _=Q at hsub;split at hsub<;>(try (cases hsub;done))
 rename_i ps qs e1 e2 hck;simp only[qsI]at hsub;subst hsub;obtain⟨ha1,ha2⟩:=qX.1 hall;simp only[qbA]at hck;obtain⟨hsc,hinj,hlow,hnd,_⟩:=hck;unfold qV at hsc;simp only[List.all_eq_true,qbA,qdE]at hsc;unfold qf at hf;simp only[List.all_eq_true,qbA,qdE,bne_iff_ne,ne_eq]at hf;obtain⟨hf1,hf2,hf3⟩:=hf;have hz:ls.map (QI st.tm)=J.live.map (λp=>QI st.tm p.1):=by rw[<-hs.slots,List.map_map];rfl
 have hden:=eqL_den (hJ:=J.hp) r _ _ _ e1 ha1;rw[hz]at hden;have hsame:=QGB hden
 have hget:∀ t,QI ((J.dfrs D).inst λt=>a.tmps.getD t undef).tm t=if t<J.len then (match lkS J.live t with|some v=>v|none => .raw (a.tmps.getD t undef))else .tup []:=by
  intro t;have:=Hl (λt=>a.tmps.getD t undef) J.live J.len 0 t;rw[Nat.zero_add]at this;exact this
 have hblk:∀ id b,look J.hp id=some b->(QK (Qr Q J.hp r) id w b/\∀ k,¬ Qa (Qr Q J.hp r) id b k) ∨
   ∃ x b',Kz Q id=some x/\x.c ≠ .ghost/\look st.hp x.s=some b'/\QK (Qr Q J.hp r) id w b/\(∀ k,Qa (Qr Q J.hp r) id b k->Qa r x.s b' k)/\(b.own=true->b'.own=true):=by
  intro id b hb;rcases QC2 e2 ha2 _ (Q5 hb)with ⟨x,h1,h2,q1,h3,h4⟩|⟨x,b',h1,h2,h3,q1,h4,h5⟩
  .refine .inl (QJx h3 h4 ?_);unfold Qr;rw[h1];obtain⟨_,s,c⟩:=x;simp only at h2;subst h2;simp only;rw[hb]
  .have:=QKb (hJ:=J.hp) (r:=r) (w:=w) (x:=x) h1 h4 h5 (hI.rep _ _ (hh _ _ h3));exact .inr ⟨x,b',h1,h2,hh _ _ h3,this.1,this.2.1,this.2.2⟩
 obtain⟨mf,hmf⟩:∃ m:Nat->Prop,∀ k,m k↔∃ id,G.n<=id/\look st.hp id=some .dfr/\(r id).foot k:=⟨_,λ_=>Iff.rfl⟩;let r2:Nat->Loc:=λi=>if i=D then ⟨0,0,0,0,false,.none,mf⟩else Qr Q J.hp r i
 have hr2:∀ i,i≠D->r2 i=Qr Q J.hp r i:=λi hi=>if_neg hi;have hrD:(r2 D).foot=mf:=by show(if D=D then _ else _:Loc).foot=mf;rw[if_pos rfl]
 have hcong:∀ i,(i != D)=true->Qr Q J.hp r i=r2 i:=λi hi=>(hr2 i (by simpa using hi)).symm
 have hlk:∀ id b,look (J.dfrs D).hp id=some b->(id=D/\b = .dfr)∨(id≠D/\look J.hp id=some b/\b.all (λi=>i != D)=true):=by
  intro id b hb;simp only[JSt.dfrs,Kg]at hb;split at hb
  .rename_i he;simp only[Blk.live,if_true,qsI]at hb
   exact .inl ⟨by have : D = id := by simpa using he
                  exact this.symm,hb.symm⟩
  .rename_i he;exact .inr ⟨λe=>he (by simp[e]),hb,(hf2 _ (Q5 hb)).2⟩
 have hfoot:∀ id b k,id≠D->(Qa r2 id b k↔Qa (Qr Q J.hp r) id b k):=λid b k hid=>by unfold Qa;rw[hr2 id hid]
 have hmk:∀ id b k,look J.hp id=some b->b.own=true->Qa (Qr Q J.hp r) id b k->¬ mf k:=by
  intro id b k hb ho hk hm;obtain⟨id',_,h2,h3⟩:=(hmf k).1 hm;rcases hblk id b hb with h1|⟨x,c,_,_,g3,_,g4,g5⟩
  .exact h1.2 k hk
  .refine hI.sep _ _ c _ g3 h2 (λe=>?_) (g5 ho) k (g4 k hk) h3;rw[e,h2]at g3;simp only[qsI]at g3;have:=g5 ho;rw[<-g3]at this;cases this
 have hrep:∀ id b,look (J.dfrs D).hp id=some b->QK r2 id w b:=by
  intro id b hb;rcases hlk id b hb with ⟨rfl,rfl⟩|⟨h1,h2,h3⟩
  .intro k hk;rw[hrD]at hk;obtain⟨id',_,q2,q3⟩:=(hmf k).1 hk;exact hI.rep id' _ q2 k q3
  .have hb0:QK (Qr Q J.hp r) id w b:=by
    rcases hblk id b h2 with q|⟨_,_,_,_,_,q,_⟩
    .exact q.1
    .exact q
   exact hb0.keep hcong (hr2 id h1).symm (qlr _) h3 λ_ _ _=>rfl
 refine⟨λt=>a.tmps.getD t undef,⟨r2,?_⟩,?_⟩
 .refine⟨?_,?_,λt=>?_,hrep,λid b hb=>Vx hb,λid id' b b' hb hb' hne ho k hk hk'=>?_,λid hid=>?_,hI.fr,λid b hb ho k hk=>?_⟩
  .rw[hI.size,hs.len];exact(QDT _ _ _ _).symm
  .obtain⟨bs,d1,d2,d3⟩:=hI.defers;refine⟨bs,d1,d2,λb hb=>?_⟩;obtain⟨q0,id,q1,q2,q3⟩:=d3 b hb;refine⟨q0,D,hD,by simp[JSt.inst,JSt.dfrs,Kg,Blk.live],?_⟩
   rw[hrD];exact(hmf b).2 ⟨id,q1,q2,q3⟩
  .rw[hget];split
   .split
    .rename_i v hv;rw[hI.tm t];refine(hsame _ (jL hv)).trans (JX hcong _ ?_);exact hf1 _ (jL hv)
    .rfl
   .rename_i hlt;rw[hI.tm t];have:QI st.tm t = .tup []:=by unfold QI;rw[List.getElem?_eq_none (by rw[hs.len];omega)];rfl
    rw[this];rfl
  .rcases hlk id b hb with ⟨rfl,rfl⟩|⟨h1,h2,h3⟩
   .cases ho
   .have hj:=(hfoot _ _ _ h1).1 hk;rcases hlk id' b' hb' with ⟨rfl,rfl⟩|⟨h1',h2',h3'⟩
    .have hj':(r2 id').foot k:=hk';rw[hrD]at hj';exact hmk id b k h2 ho hj hj'
    .have hj':=(hfoot _ _ _ h1').1 hk';rcases hblk id b h2 with q|⟨x,c,q1,q2,q3,_,q4,q5⟩
     .exact q.2 k hj
     .rcases hblk id' b' h2' with g1|⟨x',c',g1,g2,g3,_,g4,_⟩
      .exact g1.2 k hj'
      .exact hI.sep _ _ c c' q3 g3 (QG7 hinj _ (Q5 h2) _ (Q5 h2') hne x x' q1 g1 q2 g2) (q5 ho) k (q4 k hj) (g4 k hj')
  .rw[hr2 id (by omega),<-hI.ext id hid]
   unfold Qr;cases hf:Kz Q id with
   | none=>rfl
   | some x=>
    have hp:=QFn hf;obtain⟨l1,l2⟩:=QH7 hlow x (QFf hf) (by rw[hp];omega)
    obtain⟨p,s,c⟩:=x;simp only at hp l1 l2;subst l1;subst l2;subst hp;rfl
  .rcases hlk id b hb with ⟨rfl,rfl⟩|⟨h1,h2,h3⟩
   .cases ho
   .have hk:=(hfoot _ _ _ h1).1 hk;rcases hblk id b h2 with q|⟨x,c,q1,q2,q3,_,q4,q5⟩
    .exact absurd hk (q.2 k)
    .exact hI.own _ c q3 (q5 ho) k (q4 k hk)
 .refine⟨λt=>?_,λid b hb=>?_,λid b hb=>?_⟩
  .rw[hget];split
   .split
    .rename_i v hv;exact hsc.1 _ (jL hv)
    .rfl
   .rfl
  .rcases hlk id b hb with ⟨rfl,rfl⟩|⟨h1,h2,h3⟩
   .exact hf3
   .exact(hsc.2 _ (Q5 h2)).1
  .rcases hlk id b hb with ⟨rfl,rfl⟩|⟨h1,h2,h3⟩
   .rfl
   .exact(hsc.2 _ (Q5 h2)).2
theorem Rep.subD{G:Ctx}{n n0 D:Nat}{ls:List Nat}{st:St}{J:JSt}{a:Act}{w:World}{ids:List Nat}{vals:List AV}(h:Rep G n st a w)(hs:JL n0 ls st.tm.length (ls.map (QI st.tm)) (Ko ids vals st.hp) J)(hG:G.n<=n0)(hD:G.n<=D)(hf:qf D J=true):∃ g,Rep G J.nid ((J.dfrs D).inst g) a w:=by
 obtain⟨⟨r,hI⟩,_⟩:=h;exact hI.subD (λid b hb=>ZO hb) hs hG hD hf
def zC(ids:List Nat)(ls:Ex->List Nat)(e:Ex)(st:St):QC := .leaf (.tup (QOF e :: .ptr st.tm.length 0 0::(ls e).map (QI st.tm))) (Ko ids ((ls e).map (QI st.tm)) st.hp)
theorem QdS{ids:List Nat}{ls:Ex->List Nat}{Cont:Nat->List AV->List (Nat×Blk)->Prop}{Out:Ex->Nat->List AV->List (Nat×Blk)->Prop}{e:Ex}{st:St}(h:(zC ids ls e st).den (G2 Cont Out)):
  (e = .normal/\Cont st.tm.length ((ls e).map (QI st.tm)) (Ko ids ((ls e).map (QI st.tm)) st.hp))∨(e ≠ .normal/\Out e st.tm.length ((ls e).map (QI st.tm)) (Ko ids ((ls e).map (QI st.tm)) st.hp)):=by
 cases e with
 | normal=>exact .inl ⟨rfl,h⟩
 | exit id=>exact .inr ⟨by simp,h⟩
 | ret=>exact .inr ⟨by simp,h⟩
section
variable {σ:Type} (I:σ->JSt) (pre:σ->Prop) (μ:σ->Nat) (R:σ->Ex->JSt->Prop) (n0 D:Nat) (ls:Ex->List Nat) (ids:List Nat)
structure QB3 (E:σ->(Nat->Value)->Env) (H:σ->(Nat->Value)->Hnd) (body:Code):Prop where
 round:∀ s g,pre s->Wq (G2 (QCC I pre μ R n0 ls s) (QDF R n0 ls s)) (exec (E s g) (H s g) body (((I s).dfrs D).inst g) (zC ids ls))
variable {I pre μ R n0 D ls ids}
theorem QOj{E:σ->(Nat->Value)->Env}{P:Program}(hP:∀ s g,(E s g).P=P)(hE:∀ s g,pre s->(E s g).Sound){H:σ->(Nat->Value)->Hnd}{G:Ctx}(hG:G.n<=n0)(hD:G.n<=D){body:Code}(hH:∀ s g,pre s->Qu (E s g) G (H s g) body)(hn:∀ s,pre s->n0<=(I s).nid/\qf D (I s)=true)(hR:∀ s e J,R s e J->n0<=J.nid/\qf D J=true)(hr:QB3 I pre μ R n0 D ls ids E H body){Q:Exit->Act->World->Prop}:∀(n:Nat) (s:σ) (g:Nat->Value) (a:Act) (w:World),μ s<n->pre s->Rep G (I s).nid (((I s).dfrs D).inst g) a w ->
  (∀ e J g a' w',R s e J->n0<=J.nid->Rep G J.nid ((J.dfrs D).inst g) a' w'->Q e.to a' w')->Code.roundsIn (FW G.rd) 0 P body Q n a w
 | 0,s,g,a,w,hm,_,_,_=>by omega
 | n+1,s,g,a,w,hm,hp,hrep,hQ=>by
  rw[roundsIn_succ];have hh:=hH s g hp;have h0:=(hr.round s g hp).den;generalize H s g=Hs at hh h0;have hEs:=hE s g hp;have hPs:=hP s g;generalize E s g=Es at hh h0 hEs hPs;subst hPs;have key:VM Es G body (exec Es Hs body):=j7 hEs hh.call hh.yield body hh.loop;refine key (((I s).dfrs D).inst g) (zC ids ls) _ _ a w (Nat.le_trans hG (hn s hp).1) h0 hrep ?_;intro e st' a' w' hn' hden hrep';rcases QdS hden with ⟨rfl,s',h1,h2,h3,h4⟩|⟨hne,J,h1,h2⟩
  .obtain⟨g',hr'⟩:=hrep'.subD h4 hG hD (hn s' h1).2;exact QOj hP hE hG hD hH hn hR hr n s' g' a' w' (by omega) h1 hr' (λe J g a' w' hR=>hQ e J g a' w' (h3 e J hR))
  .obtain⟨g',hr'⟩:=hrep'.subD h2 hG hD (hR _ _ _ h1).2;have:=hQ e J g' a' w' h1 (hR _ _ _ h1).1 hr';cases e with
   | normal=>exact absurd rfl hne
   | exit id=>exact this
   | ret=>exact this
end
def QC4(n0:Nat)(ids:List Nat)(J0:JSt)(X:List (Prop×Ex×JSt))(st:St)(K:Ex->St->QC):QC:=
 match Nat.beq st.tm.length J0.len with
 | true=>(match QG n0 ((J0.live.map (·.1)).map (QI st.tm)) (Ko ids ((J0.live.map (·.1)).map (QI st.tm)) st.hp) J0 with
  | some ps=>QBF ps (HV K X)
  | none => .fail "a loop's beginning")
 | false => .fail "a loop's slots"
theorem QNv{σ:Type}{I:σ->JSt}{pre:σ->Prop}{μ:σ->Nat}{R:σ->Ex->JSt->Prop}{n0 D:Nat}{ls:Ex->List Nat}{ids ids':List Nat}{E0:Env}{E:σ->(Nat->Value)->Env}(hP:∀ s g,(E s g).P=E0.P)(hE:∀ s g,pre s->(E s g).Sound){H:σ->(Nat->Value)->Hnd}{G:Ctx}(hG:G.n<=n0)(hD:G.n<=D){body:Code}(hH:∀ s g,pre s->Qu (E s g) G (H s g) body)(hn:∀ s,pre s->n0<=(I s).nid/\qf D (I s)=true)(hR:∀ s e J,R s e J->n0<=J.nid/\qf D J=true)(hr:QB3 I pre μ R n0 D ls ids E H body){s0:σ}(hp:pre s0){X:List (Prop×Ex×JSt)}(hX:∀ e J,R s0 e J->∃ x∈X,x.1/\x.2.1=e/\x.2.2=J.dfrs D):
  VM E0 G (.loop body) (QC4 n0 ids' (I s0) X):=by
 intro st K T Q a w hn' h hrep hQ;unfold QC4 at h;split at h
 rotate_left
 .exact h.elim
 rename_i hl;split at h
 rotate_left
 .exact h.elim
 rename_i ps hps;have hlen:=qnb hl;obtain⟨ha,hx⟩:=QAo h;have hso:JL n0 ((I s0).live.map (·.1)) st.tm.length (((I s0).live.map (·.1)).map (QI st.tm)) (Ko ids' (((I s0).live.map (·.1)).map (QI st.tm)) st.hp) (I s0):={ slots:=rfl,len:=hlen,eqs:=⟨ps,hps,ha⟩ };obtain⟨g,hr'⟩:=hrep.subD hso hG hD (hn s0 hp).2;refine wpIn_loop_rounds (μ s0+1) (QOj hP hE hG hD hH hn hR hr _ s0 g a w (Nat.lt_succ_self _) hp hr' ?_);intro e J g' a' w' hRe hnJ hrJ;obtain⟨x,h1,h2,h3,h4⟩:=hX e J hRe;have:=HP hx x h1 h2 g';rw[h3,h4]at this
 exact hQ e ((J.dfrs D).inst g') a' w' (Nat.le_trans hG hnJ) this hrJ
end Go.SX
namespace Go.Proofs.YtekbmehgcofnkaaGreat
open Go.SX Go.SX.Told
def Qw(c:Code):Code×Code:=match Ky c with
 | .rangeFunc _ _ ac body::_=>(ac,body)
 | _=>(.skip,.skip)
