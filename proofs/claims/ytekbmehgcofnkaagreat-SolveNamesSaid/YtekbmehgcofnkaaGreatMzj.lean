/- - -/
import Derived.Test.YtekbmehgcofnkaaGreatMzi
open Go.Proofs.Tryz
open Go.IntKind (i64)
set_option maxRecDepth 100000
namespace Go.Proofs.YtekbmehgcofnkaaGreat
open Go.SX Go.SX.Told
variable (d:Puz)(pb:List Prop->Bool)(o:List Jn)(x:Jn)(n e:Int)(get:Nat->Pt)(E:ECt)(i:Nat)(L:Rc Pt)(k:Nat)
def QdG:List (Nat×AV):=[(1,.slz 1 0 L.n (.lit L.c)),(2,.ptr 112 0 0),(6,.ptr 200 0 0),(25,.slz 1 0 L.n (.lit L.c)),(26,.int false .i64 L.n),(27,.int false .i64 k)]
def QBs:JSt:=⟨92,QdG L k,whB d E++[(112,.cells 0 28 (KX d))]++Qm.blk 0 d.ps++Qm.blk 1 L,400⟩
def QDA:JSt:=⟨92,[(1,.slz 1 0 L.n (.lit L.c)),(6,.ptr 200 0 0)],whB d E++Qm.blk 0 d.ps++Qm.blk 1 L,400⟩
def Yb:JSt:=⟨92,[(4,.int false .i64 n),(5,.int false .i64 e)],[],400⟩
def QOH:Ex->List Nat
 | .normal=>[1,2,6,25,26,27]
 | .exit _=>[1,6]
 | .ret=>[4,5]
def QGE(d:Puz)(L:Rc Pt)(k:Nat)(v:Int):Tab:=Qa (Qa QT 52 (KG pb (tnU d 0 (L.get k).lay.piece))) 101 (KG pb (piU (.lit L.c) ⟨k,L.get⟩ (L.get k) v))
noncomputable abbrev QIO:List AV:=
  [.nili,.ptr 92 0 0,vj 0,vj 2]
noncomputable abbrev ZH:Nat×Blk:=
  (200,.cells 0 152 (List.append (waf d) ([.map 201,.slz 392 0 0 cO])))
noncomputable abbrev XZ:Nat×Blk:=
  (0,.frz (List.append (waa) ((List.append (waA) ((List.append (waZ) ([.int .i64])))))) d.ps.n λi=>QA.enc (d.ps.get i))
noncomputable abbrev ZE:Nat×Blk:=
  (392,.rowz true 49 kB 0 λi=>QA.enc ([].getD i (Lay.mk (0:Int) (0:Int))))
noncomputable abbrev Wq:Nat×Blk:=
  (1,.frz [.int .i64,.int .i64,.int .i64] L.1 λi=>QA.enc (L.2 i))
noncomputable abbrev QPP:Nat×Blk:=
  (112,.cells 0 28 (waf d))
theorem QX9(d:Puz)(E:ECt)(L:Rc Pt)(k:Nat)(v:Int)(g0:Nat->Value):exec (mkE prog (QGE pb d L k v)) (hnd (mkE prog (QGE pb d L k v)) 2) (QI f19 0) (JSt.inst (QBs d E L k) g0) (Q6 [200,201] QOH) = .br (decide ((k:Int)<(L.1:Int))) (.need (decide ((0:Int)<=(k:Int)/\(k:Int)<(L.1:Int))&&decide (L.1<=L.1)) (.need (decide (k<L.1)) (.need (true) (.br (!Qz (L.2 ((k:Int).toNat+0)).cell (0:Int) (i64.wrap ((d.ps.n:Int)-1))) (.leaf (.tup QIO) ([(ZH d),(201,.mp E.1 E.2),(XZ d),ZE])) (.need (true) (.br (!Qz (L.2 ((k:Int).toNat+0)).lay.piece (0:Int) (i64.wrap ((d.ps.n:Int)-1))) (.leaf (.tup QIO) ([(ZH d),(201,.mp E.1 E.2),(XZ d),ZE])) (.need (pb (([0=0,0=0,(L.2 ((k:Int).toNat+0)).lay.piece=(L.2 k).lay.piece]++wab d++([cO=cO,0=0,0=0,cO=cO]++wae d)))) (.need (true) (.br (!Qz (L.2 ((k:Int).toNat+0)).lay.turn (0:Int) (i64.wrap (tnV d (L.2 k).lay.piece-1))) (.leaf (.tup QIO) ([(ZH d),(201,.mp E.1 E.2),(XZ d),ZE])) (.need (decide ((0:Int)<=(k:Int)/\k<=min L.1 L.3)) (.need (pb ([0=0,k=k, Cap.lit L.3=Cap.lit L.3,Fn.func 57=Fn.func 57,0=0,0=0,(L.2 ((k:Int).toNat+0)).cell=(L.2 k).cell,(L.2 ((k:Int).toNat+0)).lay.piece=(L.2 k).lay.piece,(L.2 ((k:Int).toNat+0)).lay.turn=(L.2 k).lay.turn,k<=L.1,QB 3 k (λi=>QA.enc (L.2 i)) λi=>QA.enc ((Rw.mk k L.2).get i)])) (.br (decide (v≥0)) (.leaf (.tup [.nili,.ptr 92 0 0,vj 0,vj 5]) ([(ZH d),(201,.mp E.1 E.2),(XZ d),ZE])) (.leaf (.tup [.nilp,.ptr 92 0 0,.slz 1 0 L.1 (Cap.lit L.3),.ptr 112 0 0,.ptr 200 0 0,.slz 1 0 L.1 (Cap.lit L.3),vi (L.1:Int),vi (i64.wrap ((k:Int)+1))]) ([(ZH d),(201,.mp E.1 E.2),(Wq L),(QPP d), (XZ d),ZE])))))))))))))) (.leaf (.tup [.ptr 1 0 0,.ptr 92 0 0,.slz 1 0 L.1 (Cap.lit L.3),.ptr 200 0 0]) ([(ZH d),(201,.mp E.1 E.2),(Wq L),(XZ d),ZE])):=by kernel_rfl
theorem Qg5(n e:Int):QE 112 [vj (0:Int),vj (2:Int)] ([((200:Nat),Blk.cells (0:Nat) (152:Nat) (List.append (waF d) ([AV.bool false d.turn,AV.slz (0:Nat) (0:Nat) d.ps.n cO,AV.map (201:Nat),AV.slz (392:Nat) (0:Nat) (0:Nat) cO]))),((201:Nat),Blk.mp E.1 E.2),((0:Nat),Blk.frz [CK.int i64,CK.int i64,CK.int i64,CK.int i64,CK.int i64,CK.int i64,CK.int i64,CK.int i64,CK.int i64,CK.int i64,CK.int i64,CK.int i64,CK.int i64,CK.int i64,CK.int i64,CK.int i64,CK.int i64,CK.int i64,CK.int i64,CK.int i64,CK.int i64,CK.int i64,CK.int i64,CK.int i64,CK.int i64,CK.int i64,CK.int i64,CK.int i64] d.ps.n λi=>QA.enc (d.ps.get i)),((392:Nat),Blk.rowz true (49:Nat) [CK.int i64,CK.int i64] (0:Nat) λi=>QA.enc ([].getD i (Lay.mk (0:Int) (0:Int))))]) (Yb n e)=( some [(0:Int)=n,(2:Int)=e]):=by kernel_rfl
theorem Qg4(n e:Int):QE 112 [vj (0:Int),vj (2:Int)] ([((200:Nat),Blk.cells (0:Nat) (152:Nat) (List.append (waF d) ([AV.bool false d.turn,AV.slz (0:Nat) (0:Nat) d.ps.n cO,AV.map (201:Nat),AV.slz (392:Nat) (0:Nat) (0:Nat) cO]))),((201:Nat),Blk.mp E.1 E.2),((0:Nat),Blk.frz [CK.int i64,CK.int i64,CK.int i64,CK.int i64,CK.int i64,CK.int i64,CK.int i64,CK.int i64,CK.int i64,CK.int i64,CK.int i64,CK.int i64,CK.int i64,CK.int i64,CK.int i64,CK.int i64,CK.int i64,CK.int i64,CK.int i64,CK.int i64,CK.int i64,CK.int i64,CK.int i64,CK.int i64,CK.int i64,CK.int i64,CK.int i64,CK.int i64] d.ps.n λi=>QA.enc (d.ps.get i)),((392:Nat),Blk.rowz true (49:Nat) [CK.int i64,CK.int i64] (0:Nat) λi=>QA.enc ([].getD i (Lay.mk (0:Int) (0:Int))))]) (Yb n e)=( some [(0:Int)=n,(2:Int)=e]):=by kernel_rfl
theorem QZ6(n e:Int):QE 112 [vj (0:Int),vj (2:Int)] ([((200:Nat),Blk.cells (0:Nat) (152:Nat) (List.append (waF d) ([AV.bool false d.turn,AV.slz (0:Nat) (0:Nat) d.ps.n cO,AV.map (201:Nat),AV.slz (392:Nat) (0:Nat) (0:Nat) cO]))),((201:Nat),Blk.mp E.1 E.2),((0:Nat),Blk.frz [CK.int i64,CK.int i64,CK.int i64,CK.int i64,CK.int i64,CK.int i64,CK.int i64,CK.int i64,CK.int i64,CK.int i64,CK.int i64,CK.int i64,CK.int i64,CK.int i64,CK.int i64,CK.int i64,CK.int i64,CK.int i64,CK.int i64,CK.int i64,CK.int i64,CK.int i64,CK.int i64,CK.int i64,CK.int i64,CK.int i64,CK.int i64,CK.int i64] d.ps.n λi=>QA.enc (d.ps.get i)),((392:Nat),Blk.rowz true (49:Nat) [CK.int i64,CK.int i64] (0:Nat) λi=>QA.enc ([].getD i (Lay.mk (0:Int) (0:Int))))]) (Yb n e)=( some [(0:Int)=n,(2:Int)=e]):=by kernel_rfl
theorem Qhc(n e:Int):QE 112 [vj (0:Int),vj (5:Int)] ([((200:Nat),Blk.cells (0:Nat) (152:Nat) (List.append (waF d) ([AV.bool false d.turn,AV.slz (0:Nat) (0:Nat) d.ps.n cO,AV.map (201:Nat),AV.slz (392:Nat) (0:Nat) (0:Nat) cO]))),((201:Nat),Blk.mp E.1 E.2),((0:Nat),Blk.frz [CK.int i64,CK.int i64,CK.int i64,CK.int i64,CK.int i64,CK.int i64,CK.int i64,CK.int i64,CK.int i64,CK.int i64,CK.int i64,CK.int i64,CK.int i64,CK.int i64,CK.int i64,CK.int i64,CK.int i64,CK.int i64,CK.int i64,CK.int i64,CK.int i64,CK.int i64,CK.int i64,CK.int i64,CK.int i64,CK.int i64,CK.int i64,CK.int i64] d.ps.n λi=>QA.enc (d.ps.get i)),((392:Nat),Blk.rowz true (49:Nat) [CK.int i64,CK.int i64] (0:Nat) λi=>QA.enc ([].getD i (Lay.mk (0:Int) (0:Int))))]) (Yb n e)=( some [(0:Int)=n,(5:Int)=e]):=by kernel_rfl
abbrev QJr:List Prop:=
  [0=0,L.1=L.1,Cap.lit L.3=Cap.lit L.3,0=0,0=0]
abbrev QJk(d:Puz):List Prop:=
  ((waD d++([0=0,d.ps.n=d.ps.n]++wbV E))++wam)
abbrev QH8(d:Puz):List Prop:=
  (wae d++[L.1<=L.1,QB 3 L.1 (λi=>QA.enc (L.2 i)) λi=>QA.enc (L.2 i)])
theorem QV2(k k':Nat):QE 112 [.slz 1 0 L.1 (Cap.lit L.3),.ptr 112 0 0,.ptr 200 0 0,.slz 1 0 L.1 (Cap.lit L.3),vi (L.1:Int),vi (i64.wrap ((k:Int)+1))] ([(ZH d),(201,.mp E.1 E.2),(Wq L),(QPP d),(XZ d),ZE]) (QBs d E L k')=(some ((QJr L)++([0=0,0=0,0=0,L.1=L.1,Cap.lit L.3=Cap.lit L.3,(L.1:Int)=(L.1:Int),i64.wrap ((k:Int)+1)=(k':Int)]++waY d)++(QJk E d)++(wab d++[cO=cO])++(QH8 L d))):=by kernel_rfl
theorem QgW :QE 112 [.slz 1 0 L.1 (Cap.lit L.3),.ptr 200 0 0] ([(ZH d),(201,.mp E.1 E.2),(Wq L),(XZ d),ZE]) (QDA d E L)=(some ((QJr L)++(waY d)++(QJk E d)++(QH8 L d))):=by kernel_rfl
def Qfd:List (Nat×AV):=[(1,.slz 1 0 L.n (.lit L.c)),(6,.ptr 200 0 0),(77,.int false .i64 L.n),(78,.int false .i64 k)]
def QBB:JSt:=⟨92,Qfd L k,whB d E++Qm.blk 0 d.ps++Qm.blk 1 L,400⟩
def QE4:JSt:=⟨92,[(1,.slz 1 0 L.n (.lit L.c))],Qm.blk 1 L,400⟩
def QM3:Ex->List Nat
 | .normal=>[1,6,77,78]
 | .exit _=>[1]
 | .ret=>[4,5]
def QHM(d:Puz)(E:ECt)(C:Cap)(K:Rw Pt)(v:Bool):Tab:=Qa QT 53 (KG pb (hsU d E C K v))
noncomputable abbrev QGi:Nat×Blk:=
  (200,.cells 0 152 (List.append (waf d) ([.map 201,.slz 464 0 0 cO])))
noncomputable abbrev QGT:Nat×Blk:=
  (464,.rowz true 49 kB 0 λi=>QA.enc ([].getD i (Lay.mk (0:Int) (0:Int))))
theorem QXX(d:Puz)(E:ECt)(L:Rc Pt)(K:Rw Pt)(k:Nat)(v:Bool)(g0:Nat->Value):exec (mkE prog (QHM pb d E (.lit L.c) K v)) (hnd (mkE prog (QHM pb d E (.lit L.c) K v)) 0) (QI f19 1) (JSt.inst (QBB d E L k) g0) (Q6 [200,201] QM3) = .br (decide ((k:Int)<(L.1:Int))) (.need (decide ((0:Int)<=i64.wrap ((k:Int)+1)/\(i64.wrap ((k:Int)+1)).toNat<=min L.1 L.3)) (.need (pb (([0=0,0=0,0=0,(i64.wrap ((k:Int)+1)).toNat=K.n,Cap.lit L.3=Cap.lit L.3]++wab d++(((wbV E)++wam++[K.n<=L.1,QB 3 K.n (λi=>QA.enc (L.2 i)) λi=>QA.enc (K.get i)])++wae d)))) (.br (!v) (.leaf (.tup [.nili,.ptr 92 0 0,vi (k:Int),vj 0]) ([(QGi d),(201,.mp E.1 E.2),(XZ d),QGT])) (.leaf (.tup [.nilp,.ptr 92 0 0,.slz 1 0 L.1 (Cap.lit L.3),.ptr 200 0 0,vi (L.1:Int),vi (i64.wrap ((k:Int)+1))]) ([(QGi d),(201,.mp E.1 E.2),(Wq L),(XZ d),QGT]))))) (.leaf (.tup [.ptr 4 0 0,.ptr 92 0 0,.slz 1 0 L.1 (Cap.lit L.3)]) ([(ZH d),(201,.mp E.1 E.2),(Wq L),(XZ d),ZE])):=by kernel_rfl
theorem QWw(n e:Int):QE 112 [vi (↑k:Int),vj (0:Int)] ([((200:Nat),Blk.cells (0:Nat) (152:Nat) (List.append (waF d) ([AV.bool false d.turn,AV.slz (0:Nat) (0:Nat) d.ps.n cO,AV.map (201:Nat),AV.slz (464:Nat) (0:Nat) (0:Nat) cO]))),((201:Nat),Blk.mp E.1 E.2),((0:Nat),Blk.frz [CK.int i64,CK.int i64,CK.int i64,CK.int i64,CK.int i64,CK.int i64,CK.int i64,CK.int i64,CK.int i64,CK.int i64,CK.int i64,CK.int i64,CK.int i64,CK.int i64,CK.int i64,CK.int i64,CK.int i64,CK.int i64,CK.int i64,CK.int i64,CK.int i64,CK.int i64,CK.int i64,CK.int i64,CK.int i64,CK.int i64,CK.int i64,CK.int i64] d.ps.n λi=>QA.enc (d.ps.get i)),((464:Nat),Blk.rowz true (49:Nat) [CK.int i64,CK.int i64] (0:Nat) λi=>QA.enc ([].getD i (Lay.mk (0:Int) (0:Int))))]) (Yb n e)=( some [(↑k:Int)=n,(0:Int)=e]):=by kernel_rfl
theorem QXU(k k':Nat):QE 112 [.slz 1 0 L.1 (Cap.lit L.3),.ptr 200 0 0,vi (L.1:Int),vi (i64.wrap ((k:Int)+1))] ([(QGi d),(201,.mp E.1 E.2),(Wq L),(XZ d),QGT]) (QBB d E L k')=(some ((QJr L)++([(L.1:Int)=(L.1:Int),i64.wrap ((k:Int)+1)=(k':Int)]++waY d)++(QJk E d)++(QH8 L d))):=by kernel_rfl
theorem QcN :QE 112 [.slz 1 0 L.1 (Cap.lit L.3)] ([(ZH d),(201,.mp E.1 E.2),(Wq L),(XZ d),ZE]) (QE4 L)=(some [0=0,L.1=L.1,Cap.lit L.3=Cap.lit L.3,L.1<=L.1,QB 3 L.1 (λi=>QA.enc (L.2 i)) λi=>QA.enc (L.2 i)]):=by kernel_rfl
def ZY:Rw Pt:=⟨0,λ_=>⟨0,⟨0,0⟩⟩⟩
def Za(d:Puz)(E:ECt)(v:Bool):Tab:=Qa (Qa QT 60 (KG pb (nbU d E))) 53 (KG pb (hsU d E (.of 0) ZY v))
abbrev QJs(X1 X2:List (Prop×Ex×JSt)):Code->St->(Ex->St->QC)->QC:=QKt [(7,JP (d.ok=true) (KH 112 [200,201] (QBs d E L 0) X1)),(18,JP (d.ok=true) (KH 112 [200,201] (QBB d E L 0) X2))]
abbrev QD0(P:Program)(pb:List Prop->Bool)(d:Puz)(E:ECt)(L:Rc Pt)(v:Bool)(X1 X2:List (Prop×Ex×JSt)):Hnd:={ hnd (mkE P (Za pb d E v)) 8 with loop:=QJs d E L X1 X2 }
theorem QNd(d:Puz)(E:ECt)(L:Rc Pt)(v:Bool)(A1 B1 A2 B2:Prop)(e1 n2:Int):Kn (mkE prog (Za pb d E v)) (QD0 prog pb d E L v [(A1,.ret,Yb 0 e1),(B1,.exit 1,QDA d E L)] [(A2,.ret,Yb n2 0),(B2,.exit 4,QE4 L)]) f19 (Qe.vals 0 ((d,L,()):Puz×Rc Pt×Unit)) (Qe.blks 0 ((d,L,()):Puz×Rc Pt×Unit)) 112 = .need (decide (d.ps.n<=d.ps.n)&&true&&decide (d.ps.n<=1000)) (.br (!d.ok) (.leaf (.tup [vj 0,vj 1]) ([])) (.need (pb ((wab d++([cO=cO]++wae d)))) (.br (decide ((L.1:Int)>20)) (.leaf (.tup [vj 0,vj 3]) ([])) (.ak ([d.ok=true,0=0,L.1=L.1,Cap.lit L.3=Cap.lit L.3,0=0,0=0,0=0,0=0,0=0,L.1=L.1,Cap.lit L.3=Cap.lit L.3,(L.1:Int)=(L.1:Int),(0:Int)=0]++wab d++[cO=cO,0=0,E.1=E.1,E.2=E.2,0=0]++wab d++([cO=cO]++wae d++[L.1<=L.1,QB 3 L.1 (λi=>QA.enc ((d,L,()).snd.fst.2 i)) λi=>QA.enc (L.2 i)])) (.both (.asm (A1) (.all (λ(g0:Nat->Value)=>.leaf (.tup [vi 0,vi e1]) ([])))) (.asm (B1) (.all (λ(g1:Nat->Value)=>.need (pb (([0=0,0=0,0=0]++wab d++(((wbV E)++wam++[0=0])++wae d)))) (.br (!v) (.leaf (.tup [vj 0, vj 4]) ([])) (.ak ([d.ok=true,0=0,L.1=L.1,Cap.lit L.3=Cap.lit L.3,0=0,0=0,(L.1:Int)=(L.1:Int),(0:Int)=0]++wab d++(((wbV E)++wam)++wae d++[L.1<=L.1,QB 3 L.1 (λi=>QA.enc (L.2 i)) λi=>QA.enc (L.2 i)])) (.both (.asm (A2) (.all (λ(g2:Nat->Value)=>.leaf (.tup [vi n2,vi 0]) ([])))) (.asm (B2) (.all (λ(g3:Nat->Value)=>.leaf (.tup [vi (L.1:Int),vj 0]) ([]))))))))))))))):=by kernel_rfl
theorem Qho:QE 112 [(AV.tup [vj (0:Int),vj (1:Int)])] ([]) (KN 112 (YK n e) [])=( some [(0:Int)=n,(1:Int)=e]):=by kernel_rfl
theorem QWV:QE 112 [(AV.tup [vj (0:Int),vj (3:Int)])] ([]) (KN 112 (YK n e) [])=( some [(0:Int)=n,(3:Int)=e]):=by kernel_rfl
theorem QZS(e1 n e:Int):QE 112 [(AV.tup [vi (0:Int),vi e1])] ([]) (KN 112 (YK n e) [])=( some [(0:Int)=n,e1=e]):=by kernel_rfl
theorem QUr:QE 112 [(AV.tup [vj (0:Int),vj (4:Int)])] ([]) (KN 112 (YK n e) [])=( some [(0:Int)=n,(4:Int)=e]):=by kernel_rfl
theorem Qac(n2 n e:Int):QE 112 [(AV.tup [vi n2,vi (0:Int)])] ([]) (KN 112 (YK n e) [])=( some [n2=n,(0:Int)=e]):=by kernel_rfl
theorem QU1(n e:Int):QE 112 [(AV.tup [vi (↑L.1:Int),vj (0:Int)])] ([]) (KN 112 (YK n e) [])=( some [(↑L.1:Int)=n,(0:Int)=e]):=by kernel_rfl
def YB(x:Pt):Bool:=Qz x.cell 0 (i64.wrap ((d.ps.n:Int)-1))&&(Qz x.lay.piece 0 (i64.wrap ((d.ps.n:Int)-1))&&Qz x.lay.turn 0 (i64.wrap (tnV d x.lay.piece-1)))
def QJW:Bool:=decide (Kj (XQ ⟨k,get⟩ (get k))≥0)
def J7:Bool := !YB d (get k)||QJW get k
def YG:Int:=cond (YB d (get k)) 5 2
open Classical in
noncomputable def QDt:List Prop->Bool:=if k<=1000 then QQ else λ_=>false
noncomputable def jc(P:Program)(d:Puz)(L:Rc Pt)(k:Nat):Env:=mkE P (QGE (QDt k) d L k (Kj (XQ ⟨k,L.get⟩ (L.get k))))
theorem QMP:(jc prog d L k).Sound:=by
 unfold jc QDt
 by_cases h:k<=1000
 .rw[if_pos h];exact QO ((Qf.add (YR d 0 _)).add (Qfz (.lit L.c) ⟨k,L.get⟩ (L.get k) h))
 .rw[if_neg h];exact QO ((Qf.add (Jr (by kernel_rfl) _)).add (Jr (by kernel_rfl) _))
def jQ(e:Ex)(J:JSt):Prop:=match QU (J7 d L.get) (L.n-k) k with
 | some i=>e = .ret/\J=Yb 0 (YG d L.get i)
 | none=>e = .exit 1/\J=QDA d E L
theorem QZe(hn:L.n<=1000)(hc:L.n<=L.c):JW (QBs d E L) (λk=>k<=L.n) (λk=>L.n-k) (jQ d E L) 112 QOH [200,201] (jc prog d L) (λk=>hnd (jc prog d L k) 2) (QI f19 0):=by
 refine⟨λk g0 hk=>?_⟩;have hk:k<=L.n:=hk;have hk1:k<=1000:=Nat.le_trans hk hn;have hpb:QDt k=QQ:=by unfold QDt;rw[if_pos hk1]
 have hit:∀(_:k<L.n) (e:Int),J7 d L.get k=true->YG d L.get k=e->jQ d E L k .ret (Yb 0 e):=by
  intro h e hb he;unfold jQ;rw[(VP h).1 hb];exact⟨rfl,by rw[he]⟩
 unfold jc;rw[hpb];have et:=QX9 QQ d E L k (Kj (XQ ⟨k,L.get⟩ (L.get k))) g0;refine Qg et ?_;clear et;refine QF (λb0=>?_) (λb0=>?_);have h:k<L.n:=by have:=qdt b0;omega
 have hf:=VP (p:=J7 d L.get) h
 iterate 3 (refine QG ?_ ?_;rotate_left)
 refine QF (λb1=>?_) (λb1=>?_);have hp:YB d (L.get k)=false:=by unfold YB;rw[show Qz (L.get k).cell 0 (i64.wrap ((d.ps.n:Int)-1))=false by simpa using b1];rfl
 refine⟨_,hit h 2 (by unfold J7;rw[hp];rfl) (by unfold YG;rw[hp];rfl),rfl,rfl,_,Qg5 d E 0 2,?_⟩
 rotate_left
 refine QG ?_ ?_;rotate_left;refine QF (λb2=>?_) (λb2=>?_);have hp:YB d (L.get k)=false:=by unfold YB;rw[show Qz (L.get k).lay.piece 0 (i64.wrap ((d.ps.n:Int)-1))=false by simpa using b2];simp
 refine⟨_,hit h 2 (by unfold J7;rw[hp];rfl) (by unfold YG;rw[hp];rfl),rfl,rfl,_,Qg4 d E 0 2,?_⟩
 rotate_left
 iterate 2 (refine QG ?_ ?_;rotate_left)
 refine QF (λb3=>?_) (λb3=>?_);have hp:YB d (L.get k)=false:=by unfold YB;rw[show Qz (L.get k).lay.turn 0 (i64.wrap (tnV d (L.get k).lay.piece-1))=false by simpa using b3];simp
 refine⟨_,hit h 2 (by unfold J7;rw[hp];rfl) (by unfold YG;rw[hp];rfl),rfl,rfl,_,QZ6 d E 0 2,?_⟩
 rotate_left
 iterate 2 (refine QG ?_ ?_;rotate_left)
 refine QF (λb4=>?_) (λb4=>?_);have hp:YB d (L.get k)=true:=by unfold YB;rw[show Qz (L.get k).cell 0 (i64.wrap ((d.ps.n:Int)-1))=true by simpa using b1,show Qz (L.get k).lay.piece 0 (i64.wrap ((d.ps.n:Int)-1))=true by simpa using b2,show Qz (L.get k).lay.turn 0 (i64.wrap (tnV d (L.get k).lay.piece-1))=true by simpa using b3];rfl
 have hd:QJW L.get k=true:=b4;refine⟨_,hit h 5 (by unfold J7;rw[hd];simp) (by unfold YG;rw[hp];rfl),rfl,rfl,_,Qhc d E 0 5,?_⟩
 rotate_left
 have hp:YB d (L.get k)=true:=by unfold YB;rw[show Qz (L.get k).cell 0 (i64.wrap ((d.ps.n:Int)-1))=true by simpa using b1,show Qz (L.get k).lay.piece 0 (i64.wrap ((d.ps.n:Int)-1))=true by simpa using b2,show Qz (L.get k).lay.turn 0 (i64.wrap (tnV d (L.get k).lay.piece-1))=true by simpa using b3];rfl
 have hd:QJW L.get k=false:=b4;have hb:J7 d L.get k=false:=by unfold J7;rw[hp,hd];rfl
 refine⟨k+1,h,by show L.n-(k+1)<L.n-k;omega,λe J h=>by unfold jQ at h ⊢;rw[hf.2 hb];exact h,rfl,rfl,_,QV2 d E L k (k+1),?_⟩
 rotate_left
 have h:L.n<=k:=by have:=qdf b0;omega
 refine⟨_,(by unfold jQ;rw[show L.n-k=0 by omega];exact⟨rfl,rfl⟩),rfl,rfl,_,QgW d E L,?_⟩
 rotate_left
 all_goals first|((with_reducible show _=true);(first|rfl|(refine KA.2 ?_;repeat' first|with_reducible refine QP ?_ ?_|exact tv|with_reducible exact qRr|exact rfl|(show k<=L.n;omega)|refine aI ?_ ?_)|(simp;done)|(simp;omega)))|(repeat' first|exact tv|with_reducible refine QP ?_ ?_|exact qlr _|with_reducible exact qRr|exact VT h hn|exact rfl|refine aI ?_ ?_)
def QAi:Rw Pt:=⟨k+1,get⟩
def XX(get:Nat->Pt)(k:Nat):Bool := !hsV d E (Qr (QAi get k))
open Classical in
noncomputable def vD(P:Program)(d:Puz)(E:ECt)(L:Rc Pt)(k:Nat):Env:=mkE P (QHM (if k<1000 then QQ else λ_=>false) d E (.lit L.c) (QAi L.get k) (hsV d E (Qr (QAi L.get k))))
theorem QNt{d:Puz}{E:ECt}(hd:KB d)(hE:WfE E)(L:Rc Pt)(k:Nat):(vD prog d E L k).Sound:=by
 unfold vD
 by_cases h:k<1000
 .rw[if_pos h];exact QO (Qf.add (QHW (.lit L.c) hd hE (show k+1<=1000 by omega)))
 .rw[if_neg h];exact QO (Qf.add (Jr (by kernel_rfl) _))
def GY(e:Ex)(J:JSt):Prop:=match QU (XX d E L.get) (L.n-k) k with
 | some i=>e = .ret/\J=Yb i 0
 | none=>e = .exit 4/\J=QE4 L
theorem Qgv(hn:L.n<=1000)(hc:L.n<=L.c):JW (QBB d E L) (λk=>k<=L.n) (λk=>L.n-k) (GY d E L) 112 QM3 [200,201] (vD prog d E L) (λk=>hnd (vD prog d E L k) 0) (QI f19 1):=by
 refine⟨λk g0 hk=>?_⟩;have hk:k<=L.n:=hk;unfold vD;have et:=QXX (if k<1000 then QQ else λ_=>false) d E L (QAi L.get k) k (hsV d E (Qr (QAi L.get k))) g0
 refine Qg et ?_;clear et;refine QF (λb0=>?_) (λb0=>?_);have h:k<L.n:=by have:=qdt b0;omega
 have hf:=VP (p:=XX d E L.get) h;have hw:=VT h hn;have hw2:(i64.wrap ((k:Int)+1)).toNat=k+1:=by rw[hw];exact Int.toNat_natCast _
 rw[if_pos (show k<1000 by omega)]
 iterate 2 (refine QG ?_ ?_;rotate_left)
 refine QF (λb1=>?_) (λb1=>?_);have hb:XX d E L.get k=true:=b1;refine⟨_,(by unfold GY;rw[hf.1 hb];exact⟨rfl,rfl⟩),rfl,rfl,_,QWw d E k k 0,?_⟩
 rotate_left
 have hb:XX d E L.get k=false:=b1;refine⟨k+1,h,by show L.n-(k+1)<L.n-k;omega,λe J h=>by unfold GY at h ⊢;rw[hf.2 hb];exact h,rfl,rfl,_,QXU d E L k (k+1),?_⟩
 rotate_left
 have h:L.n<=k:=by have:=qdf b0;omega
 refine⟨_,(by unfold GY;rw[show L.n-k=0 by omega];exact⟨rfl,rfl⟩),rfl,rfl,_,QcN d E L,?_⟩
 rotate_left
 all_goals first|((with_reducible show _=true);(first|(rw[hw];simp;omega)|(refine KA.2 ?_;repeat' first|with_reducible refine QP ?_ ?_|exact tv|with_reducible exact qRr|exact qRr|exact hw2|exact hw2.symm|exact Nat.le_of_eq hw2|exact Nat.le_of_eq hw2.symm|exact rfl|(show k+1<=L.n;omega)|refine aI ?_ ?_)))|(repeat' first|exact tv|with_reducible refine QP ?_ ?_|exact qlr _|with_reducible exact qRr|exact hw|exact rfl|refine aI ?_ ?_)
def vk(get:Nat->Pt)(n:Nat):Int:=match QU (XX d E get) n 0 with
 | some i=>i
 | none=>n
def QaB(get:Nat->Pt)(n:Nat):Int×Int:=match QU (J7 d get) n 0 with
 | some i=>(0,YG d get i)
 | none=>cond (hsV d E (Qr ZY)) (vk d E get n,0) (0,4)
def G7(n:Nat):Int×Int:=cond d.ok (cond (decide ((n:Int)>20)) (0,3) (QaB d (QK d) get n)) (0,1)
def Vu:WF (Puz×Rc Pt×Unit):=λ|(d,L,_)=>(decide (d.ps.n<=1000/\L.n<=1000/\L.n<=L.c),YK (G7 d L.get L.n).1 (G7 d L.get L.n).2,[])
def QS3:FC:=wFC Vu
theorem QRP:WOk (Vu (d,L,())).2.1 (Vu (d,L,())).2.2:=⟨rfl,by simp[Vu],rfl⟩
def jS:List (Prop×Ex×JSt):=[((QU (J7 d L.get) L.n 0).isSome=true,.ret,Yb 0 (YG d L.get ((QU (J7 d L.get) L.n 0).getD 0))),(QU (J7 d L.get) L.n 0=none,.exit 1,QDA d E L)]
def jf:List (Prop×Ex×JSt):=[((QU (XX d E L.get) L.n 0).isSome=true,.ret,Yb (((QU (XX d E L.get) L.n 0).getD 0:Nat):Int) 0),(QU (XX d E L.get) L.n 0=none,.exit 4,QE4 L)]
theorem Qgi:Kz (Ql f19)=[.loop (QI f19 0),.loop (QI f19 1)]:=by kernel_rfl
theorem QQj(pb:List Prop->Bool)(v:Bool)(hT:Qd (Za pb d (QK d) v))(hn:L.n<=1000)(hc:L.n<=L.c)(G:Ctx)(hrd:G.rd=none)(hG:G.n=112):Qx (mkE prog (Za pb d (QK d) v)) G (QD0 prog pb d (QK d) L v (jS d (QK d) L) (jf d (QK d) L)) (Ql f19):=by
 refine QOk (QO hT) hrd ?_;rw[Qgi];intro s hs;simp only[List.mem_cons,List.not_mem_nil,or_false]at hs;rcases hs with rfl|rfl
 .have e:QJs d (QK d) L (jS d (QK d) L) (jf d (QK d) L) (.loop (QI f19 0))=JP (d.ok=true) (KH 112 [200,201] (QBs d (QK d) L 0) (jS d (QK d) L)):=by kernel_rfl
  rw[e];refine Jj λho=>?_;refine Jq (E0:=mkE prog (Za pb d (QK d) v)) (E:=jc prog d L) (H:=λk=>hnd (jc prog d L k) 2) (n0:=112) (s0:=0) (λ_=>rfl) (QMP d L) (by omega) (λk _=>Qw (QMP d L k) 2 G _ hrd) (λk _=>(by decide:112<=400)) ?_ (QZe d (QK d) L hn hc) (Nat.zero_le _) ?_
  .intro k e J h;unfold jQ at h;split at h<;>(rw[h.2];exact(by decide:112<=400))
  .intro e J h;unfold jQ at h;rw[Nat.sub_zero]at h;unfold jS;cases hf:QU (J7 d L.get) L.n 0 with
   | some i=>rw[hf]at h;exact⟨_,qmc,rfl,h.1.symm,h.2.symm⟩
   | none=>rw[hf]at h;exact⟨_,List.mem_cons_of_mem _ qmc,rfl,h.1.symm,h.2.symm⟩
 .have e:QJs d (QK d) L (jS d (QK d) L) (jf d (QK d) L) (.loop (QI f19 1))=JP (d.ok=true) (KH 112 [200,201] (QBB d (QK d) L 0) (jf d (QK d) L)):=by kernel_rfl
  rw[e];refine Jj λho=>?_;have hd:=(WQ (Zl ho)).1;have hE:=(Zo d hd.n).w;refine Jq (E0:=mkE prog (Za pb d (QK d) v)) (E:=vD prog d (QK d) L) (H:=λk=>hnd (vD prog d (QK d) L k) 0) (n0:=112) (s0:=0) (λ_=>rfl) (QNt hd hE L) (by omega) (λk _=>Qw (QNt hd hE L k) 0 G _ hrd) (λk _=>(by decide:112<=400)) ?_ (Qgv d (QK d) L hn hc) (Nat.zero_le _) ?_
  .intro k e J h;unfold GY at h;split at h<;>(rw[h.2];exact(by decide:112<=400))
  .intro e J h;unfold GY at h;rw[Nat.sub_zero]at h;unfold jf;cases hf:QU (XX d (QK d) L.get) L.n 0 with
   | some i=>rw[hf]at h;exact⟨_,qmc,rfl,h.1.symm,h.2.symm⟩
   | none=>rw[hf]at h;exact⟨_,List.mem_cons_of_mem _ qmc,rfl,h.1.symm,h.2.symm⟩
theorem QUP(hx:(Vu (d,L,())).1=true)(ho:d.ok=false):QS prog 19 (wFC (VW Vu (d,L,()))):=by
 obtain⟨hn,hl,hc⟩:=qdt hx;have hT:Qd (Za (λ_=>false) d (QK d) false):=(Qf.add (Jr (by kernel_rfl) _)).add (Jr (by kernel_rfl) _)
 refine Yh (c:=Ql f19) (E:=mkE prog (Za (λ_=>false) d (QK d) false)) (H:=QD0 prog (λ_=>false) d (QK d) L false (jS d (QK d) L) (jf d (QK d) L)) (QO hT) func19 (by kernel_rfl) (by kernel_rfl) (N:=112) (by decide) (d,L,()) (λG h1 h2=>QQj d L _ _ hT hl hc G h1 h2) (QRP d L) ?_
 have hv:G7 d L.get L.n=(0,1):=by simp only[G7,ho,cond_false]
 refine Qg (QNd (λ_=>false) d (QK d) L false _ _ _ _ _ _) ?_;refine QG (by simp;omega) (QF (λ_=>?_) (λh=>by rw[ho]at h;cases h))
 simp only[Vu,hv];refine⟨rfl,rfl,_,Qho 0 1,?_⟩
 repeat' first|with_reducible refine QP ?_ ?_|exact tv|with_reducible exact qRr|exact rfl|refine aI ?_ ?_
theorem QWl(hx:(Vu (d,L,())).1=true)(ho:d.ok=true):QS prog 19 (wFC (VW Vu (d,L,()))):=by
 obtain⟨hn,hl,hc⟩:=qdt hx;have hd:=(WQ (Zl ho)).1;have hE:=(Zo d hd.n).w;have hT:Qd (Za QQ d (QK d) (hsV d (QK d) (Qr ZY))):=(Qf.add (WI d (by omega))).add (QHW (.of 0) hd hE (show(0:Nat)<=1000 by decide))
 refine Yh (c:=Ql f19) (E:=mkE prog (Za QQ d (QK d) (hsV d (QK d) (Qr ZY)))) (H:=QD0 prog QQ d (QK d) L (hsV d (QK d) (Qr ZY)) (jS d (QK d) L) (jf d (QK d) L)) (QO hT) func19 (by kernel_rfl) (by kernel_rfl) (N:=112) (by decide) (d,L,()) (λG h1 h2=>QQj d L _ _ hT hl hc G h1 h2) (QRP d L) ?_
 have hv:G7 d L.get L.n=cond (decide ((L.n:Int)>20)) (0,3) (match QU (J7 d L.get) L.n 0 with
   | some i=>(0,YG d L.get i)
   | none=>cond (hsV d (QK d) (Qr ZY)) (vk d (QK d) L.get L.n,0) (0,4)):=by simp only[G7,ho,cond_true];rfl
 have et:=QNd QQ d (QK d) L (hsV d (QK d) (Qr ZY)) ((QU (J7 d L.get) L.n 0).isSome=true) (QU (J7 d L.get) L.n 0=none) ((QU (XX d (QK d) L.get) L.n 0).isSome=true) (QU (XX d (QK d) L.get) L.n 0=none) (YG d L.get ((QU (J7 d L.get) L.n 0).getD 0)) (((QU (XX d (QK d) L.get) L.n 0).getD 0:Nat):Int);refine Qg et ?_;clear et;refine QG ?_ ?_;rotate_left;refine QF ?_ ?_<;>intro b0
 .rw[ho]at b0;cases b0
 refine QG ?_ ?_;rotate_left;refine QF (λb1=>?_) (λb1=>?_);rw[show decide ((L.n:Int)>20)=true from b1,cond_true]at hv;simp only[Vu,hv];refine⟨rfl,rfl,_,QWV 0 3,?_⟩
 rotate_left
 iterate 43 refine Qq (by first|exact tv|exact ho|with_reducible exact qRr|exact rfl) ?_
 refine Kf ?_ ?_;refine Qh λa0=>?_;refine Qj λg0=>?_
 .rw[show decide ((L.n:Int)>20)=false from b1,cond_false]at hv;cases hf:QU (J7 d L.get) L.n 0 with
  | none=>rw[hf]at a0;cases a0
  | some i=>
  rw[hf]at hv;simp only[Vu,hv];refine⟨rfl,rfl,_,QZS (YG d L.get i) 0 (YG d L.get i),?_⟩
  repeat' first|with_reducible refine QP ?_ ?_|exact tv|with_reducible exact qRr|exact rfl|refine aI ?_ ?_
 refine Qh λa1=>?_;refine Qj λg1=>?_;refine QG ?_ ?_;rotate_left;refine QF (λb2=>?_) (λb2=>?_);rw[show decide ((L.n:Int)>20)=false from b1,cond_false,a1]at hv;simp only[show hsV d (QK d) (Qr ZY)=false by simpa using b2,cond_false]at hv
 simp only[Vu,hv];refine⟨rfl,rfl,_,QUr 0 4,?_⟩
 rotate_left
 iterate 30 refine Qq (by first|exact tv|exact ho|with_reducible exact qRr|exact rfl) ?_
 refine Kf ?_ ?_;refine Qh λa2=>?_;refine Qj λg2=>?_
 .rw[show decide ((L.n:Int)>20)=false from b1,cond_false,a1]at hv;simp only[show hsV d (QK d) (Qr ZY)=true by simpa using b2,cond_true]at hv
  cases hf:QU (XX d (QK d) L.get) L.n 0 with
  | none=>rw[hf]at a2;cases a2
  | some i=>
  rw[show vk d (QK d) L.get L.n=i by unfold vk;rw[hf]]at hv
  simp only[Vu,hv];refine⟨rfl,rfl,_,Qac i i 0,?_⟩
  repeat' first|with_reducible refine QP ?_ ?_|exact tv|with_reducible exact qRr|exact rfl|refine aI ?_ ?_
 refine Qh λa3=>?_;refine Qj λg3=>?_;rw[show decide ((L.n:Int)>20)=false from b1,cond_false,a1]at hv;simp only[show hsV d (QK d) (Qr ZY)=true by simpa using b2,cond_true]at hv
 rw[show vk d (QK d) L.get L.n=L.n by unfold vk;rw[a3]]at hv
 simp only[Vu,hv];refine⟨rfl,rfl,_,QU1 L L.n 0,?_⟩
 rotate_left
 all_goals first|((with_reducible show _=true);(first|(simp;done)|(refine KA.2 ?_;repeat' first|with_reducible refine QP ?_ ?_|exact tv|with_reducible exact qRr|exact rfl|refine aI ?_ ?_)|(simp;omega)))|(repeat' first|with_reducible refine QP ?_ ?_|exact tv|with_reducible exact qRr|exact rfl|refine aI ?_ ?_)
theorem Qg2(hx:(Vu (d,L,())).1=true):QS prog 19 (wFC (VW Vu (d,L,()))):=by
 cases ho:d.ok with
 | false=>exact QUP d L hx ho
 | true=>exact QWl d L hx ho
theorem QhF:QS prog 19 QS3:=zH (by kernel_rfl) λ|(d,L,()),hx=>Qg2 d L hx
def eqJ(x y:Jn):Bool:=x.a==y.a&&(x.i==y.i&&(x.b==y.b&&(x.j==y.j&&true)))
def atJ(L:List Jn)(i:Nat):Jn:=L.getD i ⟨0,0,0,0⟩
def jnC:List AV:=[vi x.a,vi x.i,vi x.b,vi x.j]
def frJ(id:Nat)(L:List Jn):Nat×Blk:=(id,.frz [.int .i64,.int .i64,.int .i64,.int .i64] L.length λi=>QA.enc (L.getD i ⟨0,0,0,0⟩))
def jiB(L:List Jn)(x:Jn):List (Nat×Blk):=[(16,.cellsR 0 67 (jnC x)),frJ 8 L]
def jiU(L:List Jn)(x:Jn)(v:Int):UC:=⟨0,⟨2,[(0,.slz 8 0 L.length (.of 0)),(1,.fn (.func 93) [.ptr 16 0 0])],jiB L x,24⟩,λ_=>.int false .i64 v,λ_=>[]⟩
def jiJ(L:List Jn)(x:Jn)(k:Nat):JSt:=⟨19,[(0,.slz 8 0 L.length (.of 0)),(1,.fn (.func 93) [.ptr 16 0 0]),(7,.int false .i64 L.length),(8,.int false .i64 k)],jiB L x,24⟩
abbrev HJ:List CK:=
  (waZ)
noncomputable abbrev QHD:Nat×Blk:=
  (16,.cellsR 0 67 [vi x.a,vi x.i,vi x.b,vi x.j])
theorem QbJ(L:List Jn)(x:Jn)(k:Nat)(g:Nat->Value):exec (mkE prog QT) (hnd (mkE prog QT) 2) (QI f135 0) (JSt.inst (jiJ L x k) g) (Q6 [] QEy) = .br (decide ((k:Int)<(L.length:Int))) (.need (decide ((0:Int)<=(k:Int)/\(k:Int)<(L.length:Int))&&decide (L.length<=L.length)) (.need (decide (k<L.length)) (.br (x.a==(L.getD k (Jn.mk (0:Int) (0:Int) (0:Int) (0:Int))).a&&(x.i==(L.getD k (Jn.mk (0:Int) (0:Int) (0:Int) (0:Int))).i&&(x.b==(L.getD k (Jn.mk (0:Int) (0:Int) (0:Int) (0:Int))).b&&(x.j==(L.getD k (Jn.mk (0:Int) (0:Int) (0:Int) (0:Int))).j&&true)))) (.leaf (.tup [.nili,.ptr 19 0 0,vi (k:Int)]) ([])) (.leaf (.tup [.nilp,.ptr 19 0 0,.slz 8 0 L.length cO,.fn (Fn.func 93) [.ptr 16 0 0],vi (L.length:Int),vi (i64.wrap ((k:Int)+1))]) ([(8,.frz HJ L.length λi=>QA.enc (L.getD i (Jn.mk (0:Int) (0:Int) (0:Int) (0:Int)))),(QHD x)]))))) (.leaf (.tup [.ptr 0 0 0,.ptr 19 0 0]) ([])):=by kernel_rfl
theorem QVn(j:Int):QE 24 [vi (↑k:Int)] ([]) (Yg j)=( some [(↑k:Int)=j]):=by kernel_rfl
theorem QY6(L:List Jn)(x:Jn)(k k':Nat):QE 24 [AV.slz (8:Nat) (0:Nat) L.length cO,AV.fn (Fn.func (93:Nat)) [AV.ptr (16:Nat) (0:Nat) (0:Nat)],vi (↑L.length:Int),vi (i64.wrap ((↑k:Int)+(1:Int)))] ([((8:Nat),Blk.frz [CK.int i64,CK.int i64,CK.int i64,CK.int i64] L.length λi=>QA.enc (L.getD i (Jn.mk (0:Int) (0:Int) (0:Int) (0:Int)))),((16:Nat),Blk.cellsR (0:Nat) (67:Nat) [vi x.a,vi x.i,vi x.b,vi x.j])]) (jiJ L x k')=( some [0=0,L.length=L.length,cO=cO,Fn.func (93:Nat)=Fn.func (93:FuncId),0=0,0=0, (↑L.length:Int)=(↑L.length:Int),i64.wrap ((↑k:Int)+(1:Int))=(↑k':Int),x.a=x.a,x.i=x.i,x.b=x.b,x.j=x.j,L.length<=L.length,QB (4:Nat) L.length (λi=>QA.enc (L.getD i (Jn.mk (0:Int) (0:Int) (0:Int) (0:Int)))) λi=>QA.enc (L.getD i (Jn.mk (0:Int) (0:Int) (0:Int) (0:Int)))]):=by kernel_rfl
theorem Qde :QE 24 [] ([]) qQ=( some []):=by kernel_rfl
abbrev jiH(P:Program)(L:List Jn)(x:Jn)(X:List (Prop×Ex×JSt)):Hnd:={ hnd (mkE P QT) 2 with loop:=λ_=>KH 24 [] (jiJ L x (0:Nat)) X }
theorem QeJ(L:List Jn)(x:Jn)(A B:Prop)(k v:Int):VQ (mkE prog QT) (jiH prog L x [(A,.ret,Yg k),(B,.exit 0,qQ)]) f135 (jiU L x v)=QC.ask (0=0) (QC.ask (L.length=L.length) (QC.ask (cO=cO) (QC.ask (Fn.func (93:FuncId)=Fn.func (93:FuncId)) (QC.ask (0=0) (QC.ask (0=0) (QC.ask ((↑L.length:Int)=(↑L.length:Int)) (QC.ask ((0:Int)=(0:Int)) (QC.ask (x.a=x.a) (QC.ask (x.i=x.i) (QC.ask (x.b=x.b) (QC.ask (x.j=x.j) (QC.ask (L.length<=L.length) (QC.ask (QB (4:Nat) L.length (λi=>QA.enc (L.getD i (Jn.mk (0:Int) (0:Int) (0:Int) (0:Int)))) λi=>QA.enc (L.getD i (Jn.mk (0:Int) (0:Int) (0:Int) (0:Int)))) (QC.both (QC.asm (A) (QC.all (λ(g0:Nat->Value)=>QC.leaf (vi k) ([])))) (QC.asm (B) (QC.all (λ(g1:Nat->Value)=>QC.leaf (vj (-1:Int)) ([])))))))))))))))))):=by kernel_rfl
theorem QaR(L:List Jn)(x:Jn)(k v:Int):QE 24 [(vi k)] ([]) (KR (jiU L x v))=( some [k=v]):=by kernel_rfl
theorem Qba(L:List Jn)(x:Jn)(v:Int):QE 24 [(vj (-1:Int))] ([]) (KR (jiU L x v))=( some [(-1:Int)=v]):=by kernel_rfl
def dlJ(o:List Jn)(i j:Nat):JSt:=⟨42,[(0,.slz 32 0 o.length (.of 0)),(1,.fn (.func 93) [.ptr 16 0 0]),(5,.int false .i64 i),(6,.int false .i64 j)],[(16,.cellsR 0 67 (jnC x)),rwJ true 32 o],40⟩
def dlE:JSt:=⟨42,[(0,.slz 32 0 o.length (.of 0)),(5,.int false .i64 i)],[rwJ true 32 o],40⟩
def QQu:Ex->List Nat
 | .normal=>[0,1,5,6]
 | .exit _=>[0,5]
 | .ret=>[]
noncomputable abbrev QNn(j:Nat)(o:List Jn):List AV:=
  [vi (o.getD j (Jn.mk (0:Int) (0:Int) (0:Int) (0:Int))).a,vi (o.getD j (Jn.mk (0:Int) (0:Int) (0:Int) (0:Int))).i,vi (o.getD
  j (Jn.mk (0:Int) (0:Int) (0:Int) (0:Int))).b,vi (o.getD j (Jn.mk (0:Int) (0:Int) (0:Int) (0:Int))).j]
noncomputable abbrev QNj(j:Nat)(o:List Jn)(x:Jn):List (Nat×Blk):=
  [(32,.rowz true 67 HJ o.length λi_1=>bif decide (i_1=i)then Kg (QNn j o) 0 (QA.enc (o.getD i (Jn.mk (0:Int) (0:Int) (0:Int) (0:Int))))else QA.enc (o.getD
  i_1 (Jn.mk (0:Int) (0:Int) (0:Int) (0:Int)))),(QHD x)]
theorem QW5(o:List Jn)(i j:Nat)(g:Nat->Value):exec (mkE prog QT) (hnd (mkE prog QT) 2) (QI f92 0) (JSt.inst (dlJ x o i j) g) (Q6 [] QQu) = .br (decide ((j:Int)<(o.length:Int))) (.need (decide ((0:Int)<=(j:Int)/\(j:Int)<(o.length:Int))&&decide (o.length<=o.length)) (.need (decide (j<o.length)) (.br (!(x.a==(o.getD j (Jn.mk (0:Int) (0:Int) (0:Int) (0:Int))).a&&(x.i==(o.getD j (Jn.mk (0:Int) (0:Int) (0:Int) (0:Int))).i&&(x.b==(o.getD j (Jn.mk (0:Int) (0:Int) (0:Int) (0:Int))).b&&(x.j==(o.getD j (Jn.mk (0:Int) (0:Int) (0:Int) (0:Int))).j&&true))))) (.need (decide ((0:Int)<=(i:Int)/\(i:Int)<(o.length:Int))&&decide (o.length<=o.length)) (.need (decide (i<o.length)) (.leaf (.tup [.nilp,.ptr 42 0 0,.slz 32 0 o.length cO,.fn (Fn.func 93) [.ptr 16 0 0],vi (i64.wrap ((i:Int)+1)), vi (i64.wrap ((j:Int)+1))]) ((QNj i j o x))))) (.leaf (.tup [.nilp,.ptr 42 0 0,.slz 32 0 o.length cO,.fn (Fn.func 93) [.ptr 16 0 0],vi (i:Int),vi (i64.wrap ((j:Int)+1))]) ([(32,.rowz true 67 HJ o.length λi=>QA.enc (o.getD i (Jn.mk (0:Int) (0:Int) (0:Int) (0:Int)))),(QHD x)]))))) (.leaf (.tup [.ptr 0 0 0,.ptr 42 0 0,.slz 32 0 o.length cO,vi (i:Int)]) ([(32,.rowz true 67 HJ o.length λi=>QA.enc (o.getD i (Jn.mk (0:Int) (0:Int) (0:Int) (0:Int))))])):=by kernel_rfl
theorem Qc0(o o':List Jn)(i j i' j':Nat):QE 24 [.slz 32 0 o.length cO,.fn (Fn.func 93) [.ptr 16 0 0],vi (i64.wrap ((i:Int)+1)),vi (i64.wrap ((j:Int)+1))] ((QNj i j o x)) (dlJ x o' i' j')=(some [0=0,o.length=o'.length,cO=cO,Fn.func 93=Fn.func (93:FuncId),0=0,0=0,i64.wrap ((i:Int)+1)=(i':Int),i64.wrap ((j:Int)+1)=(j':Int),x.a=x.a,x.i=x.i,x.b=x.b,x.j=x.j,o'.length<=o.length,QB 4 o'.length (λi_1=>bif decide (i_1=i)then Kg (QNn j o) 0 (QA.enc (o.getD i (Jn.mk (0:Int) (0:Int) (0:Int) (0:Int))))else QA.enc (o.getD i_1 (Jn.mk (0:Int) (0:Int) (0:Int) (0:Int)))) λi=>QA.enc (o'.getD i (Jn.mk (0:Int) (0:Int) (0:Int) (0:Int)))]):=by kernel_rfl
noncomputable abbrev wbx(o:List Jn):List Prop:=[o.length<=o.length,QB (4:Nat) o.length (λi=>QA.enc (o.getD i (Jn.mk (0:Int) (0:Int) (0:Int) (0:Int)))) λi=>QA.enc (o.getD i (Jn.mk (0:Int) (0:Int) (0:Int) (0:Int)))]
theorem QWK(o:List Jn)(i j j':Nat):QE 24 [AV.slz (32:Nat) (0:Nat) o.length cO,AV.fn (Fn.func (93:Nat)) [AV.ptr (16:Nat) (0:Nat) (0:Nat)],vi (↑i:Int),vi (i64.wrap ((↑j:Int)+(1:Int)))] ([((32:Nat),Blk.rowz true (67:Nat) [CK.int i64,CK.int i64,CK.int i64,CK.int i64] o.length λi=>QA.enc (o.getD i (Jn.mk (0:Int) (0:Int) (0:Int) (0:Int)))),((16:Nat),Blk.cellsR (0:Nat) (67:Nat) [vi x.a,vi x.i,vi x.b,vi x.j])]) (dlJ x o i j')=( some ([0=0,o.length=o.length,cO=cO,Fn.func (93:Nat)=Fn.func (93:FuncId),0=0,0=0,(↑i:Int)=(↑i:Int),i64.wrap ((↑j:Int)+(1:Int))=(↑j':Int),x.a=x.a,x.i=x.i,x.b=x.b,x.j=x.j]++wbx o)):=by kernel_rfl
theorem QcQ(i:Nat):QE 24 [AV.slz (32:Nat) (0:Nat) o.length cO,vi (↑i:Int)] ([((32:Nat),Blk.rowz true (67:Nat) [CK.int i64,CK.int i64,CK.int i64,CK.int i64] o.length λi=>QA.enc (o.getD i (Jn.mk (0:Int) (0:Int) (0:Int) (0:Int))))]) (dlE o i)=( some ([0=0,o.length=o.length,cO=cO,(↑i:Int)=(↑i:Int)]++wbx o)):=by kernel_rfl
def vN(L:List Jn)(x:Jn)(v:Int):Tab:=Qa QT 135 (KG pb (jiU L x v))
def Zw(L:List Jn)(x:Jn)(w:List Jn):UC:=⟨0,⟨2,[(0,.slz 8 0 L.length (.of 0)),(1,.fn (.func 93) [.ptr 16 0 0])],[rwJ true 8 L,(16,.cellsR 0 67 (jnC x))],24⟩,λm=>.slz m 0 w.length (.of 0),λm=>[rwJ true m w]⟩
abbrev dlH(P:Program)(pb:List Prop->Bool)(L:List Jn)(x:Jn)(v:Int)(i0:Nat)(X:List (Prop×Ex×JSt)):Hnd:={ hnd (mkE P (vN pb L x v)) 2 with loop:=λ_=>JP (i0<L.length) (KH 24 [] (dlJ x L i0 (i0+1)) X) }
noncomputable abbrev wbm(L:List Jn)(x:Jn):List Prop:=[x.a=x.a,x.i=x.i,x.b=x.b,x.j=x.j,L.length<=L.length,QB 4 L.length (λi=>QA.enc (L.getD i (Jn.mk (0:Int) (0:Int) (0:Int) (0:Int)))) λi=>QA.enc (L.getD i (Jn.mk (0:Int) (0:Int) (0:Int) (0:Int)))]
theorem QZH(L:List Jn)(x:Jn)(v:Int)(i0:Nat)(o':List Jn)(i':Nat)(w:List Jn):VQ (mkE prog (vN pb L x v)) (dlH prog pb L x v i0 [(True,.exit 0,dlE o' i')]) f92 (Zw L x w) = .need (pb (([0=0,L.length=L.length,cO=cO,Fn.func 93=Fn.func 93,0=0,0=0]++wbm L x))) (.br (v == -1) (.leaf (.slz 8 0 L.length cO) ([(8,.rowz true 67 HJ L.length λi=>QA.enc (L.getD i (Jn.mk (0:Int) (0:Int) (0:Int) (0:Int))))])) (.ak ([i0<L.length,0=0,L.length=L.length,cO=cO,Fn.func (93:FuncId)=Fn.func (93:FuncId),0=0,0=0,v=(i0:Int),i64.wrap (v+1)=(↑(i0+1):Int)]++wbm L x) (.asm (True) (.all (λ(g0:Nat->Value)=>.need (decide ((0:Int)<=(i':Int)/\i'<=o'.length/\i'<o'.length-0)) (.need (decide (0+i'+(o'.length-i')<=o'.length/\0<o'.length)) (.need (decide ((0:Int)<=(i':Int)/\i'<=o'.length-0)) (.leaf (.slz 32 0 i' cO) ([(32,.rowz true 67 HJ o'.length λi=>bif decide (0+i'<=i/\i<0+i'+(o'.length-i'))then λx=>(0:Int)else QA.enc (o'.getD i (Jn.mk (0:Int) (0:Int) (0:Int) (0:Int))))]))))))))):=by kernel_rfl
theorem Qf4(L:List Jn)(x:Jn)(w:List Jn):QE 24 [(AV.slz (8:Nat) (0:Nat) L.length cO)] ([((8:Nat),Blk.rowz true (67:Nat) [CK.int i64,CK.int i64,CK.int i64,CK.int i64] L.length λi=>QA.enc (L.getD i (Jn.mk (0:Int) (0:Int) (0:Int) (0:Int))))]) (KR (Zw L x w))=( some [0=0,L.length=w.length,cO=cO,w.length<=L.length,QB (4:Nat) w.length (λi=>QA.enc (L.getD i (Jn.mk (0:Int) (0:Int) (0:Int) (0:Int)))) λi=>QA.enc (w.getD i (Jn.mk (0:Int) (0:Int) (0:Int) (0:Int)))]):=by kernel_rfl
theorem QXo(L:List Jn)(x:Jn)(o':List Jn)(i':Nat)(w:List Jn):QE 24 [(AV.slz (32:Nat) (0:Nat) i' cO)] ([((32:Nat),Blk.rowz true (67:Nat) [CK.int i64,CK.int i64,CK.int i64,CK.int i64] o'.length λi=>bif decide ((0:Nat)+i'<=i/\i<(0:Nat)+i'+(o'.length-i'))then λx=>(0:Int)else QA.enc (o'.getD i (Jn.mk (0:Int) (0:Int) (0:Int) (0:Int))))]) (KR (Zw L x w))=( some [0=0,i'=w.length,cO=cO,w.length<=o'.length,QB (4:Nat) w.length (λi=>bif decide ((0:Nat)+i'<=i/\i<(0:Nat)+i'+(o'.length-i'))then λx=>(0:Int)else QA.enc (o'.getD i (Jn.mk (0:Int) (0:Int) (0:Int) (0:Int)))) λi=>QA.enc (w.getD i (Jn.mk (0:Int) (0:Int) (0:Int) (0:Int)))]):=by kernel_rfl
theorem QGz{p:Nat->Bool}:∀{m k i:Nat},QU p m k=some i->k<=i/\i<k+m/\p i=true/\∀ j,k<=j->j<i->p j=false
 | 0,k,i,h=>by cases h
 | m+1,k,i,h=>by
  simp only[QU]at h;split at h
  .rename_i hk;simp only[qsI]at h;subst h;exact⟨qlr _,by omega,hk,λj h1 h2=>by omega⟩
  .rename_i hk;obtain⟨h1,h2,h3,h4⟩:=QGz h;refine⟨by omega,by omega,h3,λj h5 h6=>?_⟩
   rcases Nat.eq_or_lt_of_le h5 with rfl|h7
   .exact hk
   .exact h4 j h7 h6
def K2(L:List Jn)(x:Jn):Option Nat:=QU (λi=>eqJ x (atJ L i)) L.length 0
def J4(L:List Jn):List Jn:=L.filter λy=>!eqJ x y
def Jl(x:Jn):Nat->List Jn->Nat->Nat->List Jn×Nat
 | 0,o,i,_=>(o,i)
 | m+1,o,i,j=>cond (eqJ x (atJ o j)) (Jl x m o i (j+1)) (Jl x m (o.set i (atJ o j)) (i+1) (j+1))
theorem QEb{L:List Jn}{i:Nat}(h:i<L.length):atJ L i=L[i]:=JL h
theorem QHm(x:Jn)(L:List Jn):∀(m:Nat) (o:List Jn) (i j:Nat),o.length=L.length->i<j->j+m=L.length->(∀ k,j<=k->atJ o k=atJ L k)->o.take i=J4 x (L.take j) ->
  (Jl x m o i j).1.length=L.length/\(Jl x m o i j).2<L.length/\(Jl x m o i j).1.take (Jl x m o i j).2=J4 x L
 | 0,o,i,j,h1,h2,h3,_,h5=>by
  refine⟨h1,by show i<_;omega,?_⟩
  show o.take i=_;rw[h5,List.take_of_length_le (by omega)]
 | m+1,o,i,j,h1,h2,h3,h4,h5=>by
  have hj:j<L.length:=by omega
  have hy:atJ o j=L[j]:=by rw[h4 j (qlr _),QEb hj]
  have ht:L.take (j+1)=L.take j++[L[j]]:=by rw[List.take_succ_eq_append_getElem hj]
  simp only[Jl];cases he:eqJ x (atJ o j)with
  | true=>
   simp only[cond_true];refine QHm x L m o i (j+1) h1 (by omega) (by omega) (λk hk=>h4 k (by omega)) ?_
   rw[hy]at he;rw[h5,ht];unfold J4;rw[List.filter_append];simp[he]
  | false=>
   simp only[cond_false];rw[hy]at he ⊢;refine QHm x L m _ (i+1) (j+1) (by rw[List.length_set];exact h1) (by omega) (by omega) (λk hk=>?_) ?_
   .rw[<-h4 k (by omega)]
    unfold atJ;rw[List.getD_eq_getElem?_getD,List.getD_eq_getElem?_getD,List.getElem?_set_ne (by omega)]
   .have hi:i<o.length:=by omega
    rw[List.take_succ_eq_append_getElem (by rw[List.length_set];exact hi),List.getElem_set_self,List.take_set_of_le (qlr i),h5,ht]
    unfold J4;rw[List.filter_append];simp[he]
theorem Qbe{x:Jn}{L:List Jn}(h:K2 L x=none):J4 x L=L:=by
 unfold J4;rw[List.filter_eq_self];intro y hy;obtain⟨i,hi,rfl⟩:=List.mem_iff_getElem.1 hy;have:=QEE h i (Nat.zero_le _) (by omega)
 rw[QEb hi]at this;rw[this];rfl
theorem QcM{x:Jn}{L:List Jn}{i:Nat}(h:K2 L x=some i):i<L.length/\(Jl x (L.length-(i+1)) L i (i+1)).1.length=L.length/\(Jl x (L.length-(i+1)) L i (i+1)).2<L.length/\(Jl x (L.length-(i+1)) L i (i+1)).1.take (Jl x (L.length-(i+1)) L i (i+1)).2=J4 x L:=by
 obtain⟨_,h2,h3,h4⟩:=QGz h;have hi:i<L.length:=by omega
 refine⟨hi,QHm x L _ L i (i+1) rfl (by omega) (by omega) (λ_ _=>rfl) ?_⟩
 rw[List.take_succ_eq_append_getElem hi];unfold J4;rw[List.filter_append];rw[QEb hi]at h3
 have h5:(L.take i).filter (λy=>!eqJ x y)=L.take i:=by
  rw[List.filter_eq_self];intro y hy;obtain⟨j,hj,rfl⟩:=List.mem_iff_getElem.1 hy;rw[List.length_take]at hj;have:=h4 j (Nat.zero_le _) (by omega)
  rw[QEb (show j<L.length by omega)]at this
  rw[List.getElem_take,this];rfl
 rw[h5];simp[h3]
