/- - -/
import Derived.Test.YtekbmehgcofnkaaGreatMzi
open Go.Proofs.Tryz
open Go.IntKind (i64)
set_option maxRecDepth 100000
namespace Go.Proofs.YtekbmehgcofnkaaGreat
open Go.SX Go.SX.Told
variable (d:Puz)(pb:List Prop->Bool)(o:List Jn)(x:Jn)(n e:Int)(get:Nat->Pt)(E:ECt)(i:Nat)(L:Rc Pt)(k:Nat)
def QeW:List (Nat×AV):=[(1,.slz 1 0 L.n (.lit L.c)),(2,.ptr 112 0 0),(6,.ptr 200 0 0),(25,.slz 1 0 L.n (.lit L.c)),(26,.int false .i64 L.n),(27,.int false .i64 k)]
def QAL:JSt:=⟨92,QeW L k,whB d E++[(112,.cells 0 28 (KR d))]++Ql.blk 0 d.ps++Ql.blk 1 L,400⟩
def QBa:JSt:=⟨92,[(1,.slz 1 0 L.n (.lit L.c)),(6,.ptr 200 0 0)],whB d E++Ql.blk 0 d.ps++Ql.blk 1 L,400⟩
def X9:JSt:=⟨92,[(4,.int false .i64 n),(5,.int false .i64 e)],[],400⟩
def QMb:Ex->List Nat
 | .normal=>[1,2,6,25,26,27]
 | .exit _=>[1,6]
 | .ret=>[4,5]
def QGK(d:Puz)(L:Rc Pt)(k:Nat)(v:Int):Tab:=Qc (Qc QT 52 (KB pb (tnU d 0 (L.get k).lay.piece))) 101 (KB pb (piU (.lit L.c) ⟨k,L.get⟩ (L.get k) v))
noncomputable abbrev QID:List AV:=
  [.nili,.ptr 92 0 0,vj 0,vj 2]
noncomputable abbrev ZK:Nat×Blk:=
  (200,.cells 0 152 (List.append (waf d) ([.map 201,.slz 392 0 0 cO])))
noncomputable abbrev XY:Nat×Blk:=
  (0,.frz (List.append (waa) ((List.append (waG) ((List.append (wbk) ([.int .i64])))))) d.ps.n λi=>QA.enc (d.ps.get i))
noncomputable abbrev Yv:Nat×Blk:=
  (392,.rowz true 49 kB 0 λi=>QA.enc ([].getD i (Lay.mk (0:Int) (0:Int))))
noncomputable abbrev qC:Nat×Blk:=
  (1,.frz [.int .i64,.int .i64,.int .i64] L.1 λi=>QA.enc (L.2 i))
noncomputable abbrev QMV:Nat×Blk:=
  (112,.cells 0 28 (waf d))
theorem Qb2(d:Puz)(E:ECt)(L:Rc Pt)(k:Nat)(v:Int)(g0:Nat->Value):exec (mkE prog (QGK pb d L k v)) (hnd (mkE prog (QGK pb d L k v)) 2) (QJ f19 0) (JSt.inst (QAL d E L k) g0) (Q9 [200,201] QMb) = .br (decide ((k:Int)<(L.1:Int))) (.need (decide ((0:Int)<=(k:Int)/\(k:Int)<(L.1:Int))&&decide (L.1<=L.1)) (.need (decide (k<L.1)) (.need (true) (.br (!Qv (L.2 ((k:Int).toNat+0)).cell (0:Int) (i64.wrap ((d.ps.n:Int)-1))) (.leaf (.tup QID) ([(ZK d),(201,.mp E.1 E.2),(XY d),Yv])) (.need (true) (.br (!Qv (L.2 ((k:Int).toNat+0)).lay.piece (0:Int) (i64.wrap ((d.ps.n:Int)-1))) (.leaf (.tup QID) ([(ZK d),(201,.mp E.1 E.2),(XY d),Yv])) (.need (pb (([0=0,0=0,(L.2 ((k:Int).toNat+0)).lay.piece=(L.2 k).lay.piece]++wab d++([cO=cO,0=0,0=0,cO=cO]++wae d)))) (.need (true) (.br (!Qv (L.2 ((k:Int).toNat+0)).lay.turn (0:Int) (i64.wrap (tnV d (L.2 k).lay.piece-1))) (.leaf (.tup QID) ([(ZK d),(201,.mp E.1 E.2),(XY d),Yv])) (.need (decide ((0:Int)<=(k:Int)/\k<=min L.1 L.3)) (.need (pb ([0=0,k=k, Cap.lit L.3=Cap.lit L.3,Fn.func 57=Fn.func 57,0=0,0=0,(L.2 ((k:Int).toNat+0)).cell=(L.2 k).cell,(L.2 ((k:Int).toNat+0)).lay.piece=(L.2 k).lay.piece,(L.2 ((k:Int).toNat+0)).lay.turn=(L.2 k).lay.turn,k<=L.1,QB 3 k (λi=>QA.enc (L.2 i)) λi=>QA.enc ((Rw.mk k L.2).get i)])) (.br (decide (v≥0)) (.leaf (.tup [.nili,.ptr 92 0 0,vj 0,vj 5]) ([(ZK d),(201,.mp E.1 E.2),(XY d),Yv])) (.leaf (.tup [.nilp,.ptr 92 0 0,.slz 1 0 L.1 (Cap.lit L.3),.ptr 112 0 0,.ptr 200 0 0,.slz 1 0 L.1 (Cap.lit L.3),vi (L.1:Int),vi (i64.wrap ((k:Int)+1))]) ([(ZK d),(201,.mp E.1 E.2),(qC L),(QMV d), (XY d),Yv])))))))))))))) (.leaf (.tup [.ptr 1 0 0,.ptr 92 0 0,.slz 1 0 L.1 (Cap.lit L.3),.ptr 200 0 0]) ([(ZK d),(201,.mp E.1 E.2),(qC L),(XY d),Yv])):=by kernel_rfl
theorem Qdh(n e:Int):QG 112 [vj (0:Int),vj (2:Int)] ([((200:Nat),Blk.cells (0:Nat) (152:Nat) (List.append (waT d) ([AV.bool false d.turn,AV.slz (0:Nat) (0:Nat) d.ps.n cO,AV.map (201:Nat),AV.slz (392:Nat) (0:Nat) (0:Nat) cO]))),((201:Nat),Blk.mp E.1 E.2),((0:Nat),Blk.frz [CK.int i64,CK.int i64,CK.int i64,CK.int i64,CK.int i64,CK.int i64,CK.int i64,CK.int i64,CK.int i64,CK.int i64,CK.int i64,CK.int i64,CK.int i64,CK.int i64,CK.int i64,CK.int i64,CK.int i64,CK.int i64,CK.int i64,CK.int i64,CK.int i64,CK.int i64,CK.int i64,CK.int i64,CK.int i64,CK.int i64,CK.int i64,CK.int i64] d.ps.n λi=>QA.enc (d.ps.get i)),((392:Nat),Blk.rowz true (49:Nat) [CK.int i64,CK.int i64] (0:Nat) λi=>QA.enc ([].getD i (Lay.mk (0:Int) (0:Int))))]) (X9 n e)=( some [(0:Int)=n,(2:Int)=e]):=by kernel_rfl
theorem QU7(n e:Int):QG 112 [vj (0:Int),vj (2:Int)] ([((200:Nat),Blk.cells (0:Nat) (152:Nat) (List.append (waT d) ([AV.bool false d.turn,AV.slz (0:Nat) (0:Nat) d.ps.n cO,AV.map (201:Nat),AV.slz (392:Nat) (0:Nat) (0:Nat) cO]))),((201:Nat),Blk.mp E.1 E.2),((0:Nat),Blk.frz [CK.int i64,CK.int i64,CK.int i64,CK.int i64,CK.int i64,CK.int i64,CK.int i64,CK.int i64,CK.int i64,CK.int i64,CK.int i64,CK.int i64,CK.int i64,CK.int i64,CK.int i64,CK.int i64,CK.int i64,CK.int i64,CK.int i64,CK.int i64,CK.int i64,CK.int i64,CK.int i64,CK.int i64,CK.int i64,CK.int i64,CK.int i64,CK.int i64] d.ps.n λi=>QA.enc (d.ps.get i)),((392:Nat),Blk.rowz true (49:Nat) [CK.int i64,CK.int i64] (0:Nat) λi=>QA.enc ([].getD i (Lay.mk (0:Int) (0:Int))))]) (X9 n e)=( some [(0:Int)=n,(2:Int)=e]):=by kernel_rfl
theorem QS7(n e:Int):QG 112 [vj (0:Int),vj (2:Int)] ([((200:Nat),Blk.cells (0:Nat) (152:Nat) (List.append (waT d) ([AV.bool false d.turn,AV.slz (0:Nat) (0:Nat) d.ps.n cO,AV.map (201:Nat),AV.slz (392:Nat) (0:Nat) (0:Nat) cO]))),((201:Nat),Blk.mp E.1 E.2),((0:Nat),Blk.frz [CK.int i64,CK.int i64,CK.int i64,CK.int i64,CK.int i64,CK.int i64,CK.int i64,CK.int i64,CK.int i64,CK.int i64,CK.int i64,CK.int i64,CK.int i64,CK.int i64,CK.int i64,CK.int i64,CK.int i64,CK.int i64,CK.int i64,CK.int i64,CK.int i64,CK.int i64,CK.int i64,CK.int i64,CK.int i64,CK.int i64,CK.int i64,CK.int i64] d.ps.n λi=>QA.enc (d.ps.get i)),((392:Nat),Blk.rowz true (49:Nat) [CK.int i64,CK.int i64] (0:Nat) λi=>QA.enc ([].getD i (Lay.mk (0:Int) (0:Int))))]) (X9 n e)=( some [(0:Int)=n,(2:Int)=e]):=by kernel_rfl
theorem QaH(n e:Int):QG 112 [vj (0:Int),vj (5:Int)] ([((200:Nat),Blk.cells (0:Nat) (152:Nat) (List.append (waT d) ([AV.bool false d.turn,AV.slz (0:Nat) (0:Nat) d.ps.n cO,AV.map (201:Nat),AV.slz (392:Nat) (0:Nat) (0:Nat) cO]))),((201:Nat),Blk.mp E.1 E.2),((0:Nat),Blk.frz [CK.int i64,CK.int i64,CK.int i64,CK.int i64,CK.int i64,CK.int i64,CK.int i64,CK.int i64,CK.int i64,CK.int i64,CK.int i64,CK.int i64,CK.int i64,CK.int i64,CK.int i64,CK.int i64,CK.int i64,CK.int i64,CK.int i64,CK.int i64,CK.int i64,CK.int i64,CK.int i64,CK.int i64,CK.int i64,CK.int i64,CK.int i64,CK.int i64] d.ps.n λi=>QA.enc (d.ps.get i)),((392:Nat),Blk.rowz true (49:Nat) [CK.int i64,CK.int i64] (0:Nat) λi=>QA.enc ([].getD i (Lay.mk (0:Int) (0:Int))))]) (X9 n e)=( some [(0:Int)=n,(5:Int)=e]):=by kernel_rfl
abbrev QG0:List Prop:=
  [0=0,L.1=L.1,Cap.lit L.3=Cap.lit L.3,0=0,0=0]
abbrev QHg(d:Puz):List Prop:=
  ((waP d++[0=0,d.ps.n=d.ps.n,cO =
  cO,0=0,0=0])++wal E)
abbrev QIs(d:Puz):List Prop:=
  (wae d++[L.1<=L.1,QB 3 L.1 (λi=>QA.enc (L.2 i)) λi=>QA.enc (L.2 i)])
theorem Qcd(k k':Nat):QG 112 [.slz 1 0 L.1 (Cap.lit L.3),.ptr 112 0 0,.ptr 200 0 0,.slz 1 0 L.1 (Cap.lit L.3),vi (L.1:Int),vi (i64.wrap ((k:Int)+1))] ([(ZK d),(201,.mp E.1 E.2),(qC L),(QMV d),(XY d),Yv]) (QAL d E L k')=(some ((QG0 L)++([0=0,0=0,0=0,L.1=L.1,Cap.lit L.3=Cap.lit L.3,(L.1:Int)=(L.1:Int),i64.wrap ((k:Int)+1)=(k':Int)]++wcK d)++(QHg E d)++(wab d++[cO=cO])++(QIs L d))):=by kernel_rfl
theorem QTN :QG 112 [.slz 1 0 L.1 (Cap.lit L.3),.ptr 200 0 0] ([(ZK d),(201,.mp E.1 E.2),(qC L),(XY d),Yv]) (QBa d E L)=(some ((QG0 L)++(wcK d)++(QHg E d)++(QIs L d))):=by kernel_rfl
def Qc6:List (Nat×AV):=[(1,.slz 1 0 L.n (.lit L.c)),(6,.ptr 200 0 0),(77,.int false .i64 L.n),(78,.int false .i64 k)]
def QAI:JSt:=⟨92,Qc6 L k,whB d E++Ql.blk 0 d.ps++Ql.blk 1 L,400⟩
def QDZ:JSt:=⟨92,[(1,.slz 1 0 L.n (.lit L.c))],Ql.blk 1 L,400⟩
def QMK:Ex->List Nat
 | .normal=>[1,6,77,78]
 | .exit _=>[1]
 | .ret=>[4,5]
def QIZ(d:Puz)(E:ECt)(C:Cap)(K:Rw Pt)(v:Bool):Tab:=Qc QT 53 (KB pb (hsU d E C K v))
noncomputable abbrev QHV:Nat×Blk:=
  (200,.cells 0 152 (List.append (waf d) ([.map 201,.slz 464 0 0 cO])))
noncomputable abbrev QHt:Nat×Blk:=
  (464,.rowz true 49 kB 0 λi=>QA.enc ([].getD i (Lay.mk (0:Int) (0:Int))))
theorem QUD(d:Puz)(E:ECt)(L:Rc Pt)(K:Rw Pt)(k:Nat)(v:Bool)(g0:Nat->Value):exec (mkE prog (QIZ pb d E (.lit L.c) K v)) (hnd (mkE prog (QIZ pb d E (.lit L.c) K v)) 0) (QJ f19 1) (JSt.inst (QAI d E L k) g0) (Q9 [200,201] QMK) = .br (decide ((k:Int)<(L.1:Int))) (.need (decide ((0:Int)<=i64.wrap ((k:Int)+1)/\(i64.wrap ((k:Int)+1)).toNat<=min L.1 L.3)) (.need (pb (([0=0,0=0,0=0,(i64.wrap ((k:Int)+1)).toNat=K.n,Cap.lit L.3=Cap.lit L.3]++wab d++(([cO=cO,0=0,0=0]++wal E++[K.n<=L.1,QB 3 K.n (λi=>QA.enc (L.2 i)) λi=>QA.enc (K.get i)])++wae d)))) (.br (!v) (.leaf (.tup [.nili,.ptr 92 0 0,vi (k:Int),vj 0]) ([(QHV d),(201,.mp E.1 E.2),(XY d),QHt])) (.leaf (.tup [.nilp,.ptr 92 0 0,.slz 1 0 L.1 (Cap.lit L.3),.ptr 200 0 0,vi (L.1:Int),vi (i64.wrap ((k:Int)+1))]) ([(QHV d),(201,.mp E.1 E.2),(qC L),(XY d),QHt]))))) (.leaf (.tup [.ptr 4 0 0,.ptr 92 0 0,.slz 1 0 L.1 (Cap.lit L.3)]) ([(ZK d),(201,.mp E.1 E.2),(qC L),(XY d),Yv])):=by kernel_rfl
theorem QfA(n e:Int):QG 112 [vi (↑k:Int),vj (0:Int)] ([((200:Nat),Blk.cells (0:Nat) (152:Nat) (List.append (waT d) ([AV.bool false d.turn,AV.slz (0:Nat) (0:Nat) d.ps.n cO,AV.map (201:Nat),AV.slz (464:Nat) (0:Nat) (0:Nat) cO]))),((201:Nat),Blk.mp E.1 E.2),((0:Nat),Blk.frz [CK.int i64,CK.int i64,CK.int i64,CK.int i64,CK.int i64,CK.int i64,CK.int i64,CK.int i64,CK.int i64,CK.int i64,CK.int i64,CK.int i64,CK.int i64,CK.int i64,CK.int i64,CK.int i64,CK.int i64,CK.int i64,CK.int i64,CK.int i64,CK.int i64,CK.int i64,CK.int i64,CK.int i64,CK.int i64,CK.int i64,CK.int i64,CK.int i64] d.ps.n λi=>QA.enc (d.ps.get i)),((464:Nat),Blk.rowz true (49:Nat) [CK.int i64,CK.int i64] (0:Nat) λi=>QA.enc ([].getD i (Lay.mk (0:Int) (0:Int))))]) (X9 n e)=( some [(↑k:Int)=n,(0:Int)=e]):=by kernel_rfl
theorem QTO(k k':Nat):QG 112 [.slz 1 0 L.1 (Cap.lit L.3),.ptr 200 0 0,vi (L.1:Int),vi (i64.wrap ((k:Int)+1))] ([(QHV d),(201,.mp E.1 E.2),(qC L),(XY d),QHt]) (QAI d E L k')=(some ((QG0 L)++([(L.1:Int)=(L.1:Int),i64.wrap ((k:Int)+1)=(k':Int)]++wcK d)++(QHg E d)++(QIs L d))):=by kernel_rfl
theorem QSw :QG 112 [.slz 1 0 L.1 (Cap.lit L.3)] ([(ZK d),(201,.mp E.1 E.2),(qC L),(XY d),Yv]) (QDZ L)=(some [0=0,L.1=L.1,Cap.lit L.3=Cap.lit L.3,L.1<=L.1,QB 3 L.1 (λi=>QA.enc (L.2 i)) λi=>QA.enc (L.2 i)]):=by kernel_rfl
def Y1:Rw Pt:=⟨0,λ_=>⟨0,⟨0,0⟩⟩⟩
def Y8(d:Puz)(E:ECt)(v:Bool):Tab:=Qc (Qc QT 60 (KB pb (nbU d E))) 53 (KB pb (hsU d E (.of 0) Y1 v))
abbrev QGO(X1 X2:List (Prop×Ex×JSt)):Code->St->(Ex->St->QC)->QC:=QYS [(7,JI (d.ok=true) (KE 112 [200,201] (QAL d E L 0) X1)),(18,JI (d.ok=true) (KE 112 [200,201] (QAI d E L 0) X2))]
abbrev QBk(P:Program)(pb:List Prop->Bool)(d:Puz)(E:ECt)(L:Rc Pt)(v:Bool)(X1 X2:List (Prop×Ex×JSt)):Hnd:={ hnd (mkE P (Y8 pb d E v)) 8 with loop:=QGO d E L X1 X2 }
theorem QQY(d:Puz)(E:ECt)(L:Rc Pt)(v:Bool)(A1 B1 A2 B2:Prop)(e1 n2:Int):Ku (mkE prog (Y8 pb d E v)) (QBk prog pb d E L v [(A1,.ret,X9 0 e1),(B1,.exit 1,QBa d E L)] [(A2,.ret,X9 n2 0),(B2,.exit 4,QDZ L)]) f19 (Qi.vals 0 ((d,L,()):Puz×Rc Pt×Unit)) (Qi.blks 0 ((d,L,()):Puz×Rc Pt×Unit)) 112 = .need (decide (d.ps.n<=d.ps.n)&&true&&decide (d.ps.n<=1000)) (.br (!d.ok) (.leaf (.tup [vj 0,vj 1]) ([])) (.need (pb ((wab d++([cO=cO]++wae d)))) (.br (decide ((L.1:Int)>20)) (.leaf (.tup [vj 0,vj 3]) ([])) (.ak ([d.ok=true,0=0,L.1=L.1,Cap.lit L.3=Cap.lit L.3,0=0,0=0,0=0,0=0,0=0,L.1=L.1,Cap.lit L.3=Cap.lit L.3,(L.1:Int)=(L.1:Int),(0:Int)=0]++wab d++[cO=cO,0=0,E.1=E.1,E.2=E.2,0=0]++wab d++([cO=cO]++wae d++[L.1<=L.1,QB 3 L.1 (λi=>QA.enc ((d,L,()).snd.fst.2 i)) λi=>QA.enc (L.2 i)])) (.both (.asm (A1) (.all (λ(g0:Nat->Value)=>.leaf (.tup [vi 0,vi e1]) ([])))) (.asm (B1) (.all (λ(g1:Nat->Value)=>.need (pb (([0=0,0=0,0=0]++wab d++(([cO=cO,0=0,0=0]++wal E++[0=0])++wae d)))) (.br (!v) (.leaf (.tup [vj 0, vj 4]) ([])) (.ak ([d.ok=true,0=0,L.1=L.1,Cap.lit L.3=Cap.lit L.3,0=0,0=0,(L.1:Int)=(L.1:Int),(0:Int)=0]++wab d++(([cO=cO,0=0,0=0]++wal E)++wae d++[L.1<=L.1,QB 3 L.1 (λi=>QA.enc (L.2 i)) λi=>QA.enc (L.2 i)])) (.both (.asm (A2) (.all (λ(g2:Nat->Value)=>.leaf (.tup [vi n2,vi 0]) ([])))) (.asm (B2) (.all (λ(g3:Nat->Value)=>.leaf (.tup [vi (L.1:Int),vj 0]) ([]))))))))))))))):=by kernel_rfl
theorem QfK:QG 112 [(AV.tup [vj (0:Int),vj (1:Int)])] ([]) (KT 112 (Xf n e) [])=( some [(0:Int)=n,(1:Int)=e]):=by kernel_rfl
theorem QXu:QG 112 [(AV.tup [vj (0:Int),vj (3:Int)])] ([]) (KT 112 (Xf n e) [])=( some [(0:Int)=n,(3:Int)=e]):=by kernel_rfl
theorem QZ9(e1 n e:Int):QG 112 [(AV.tup [vi (0:Int),vi e1])] ([]) (KT 112 (Xf n e) [])=( some [(0:Int)=n,e1=e]):=by kernel_rfl
theorem Qfd:QG 112 [(AV.tup [vj (0:Int),vj (4:Int)])] ([]) (KT 112 (Xf n e) [])=( some [(0:Int)=n,(4:Int)=e]):=by kernel_rfl
theorem QYJ(n2 n e:Int):QG 112 [(AV.tup [vi n2,vi (0:Int)])] ([]) (KT 112 (Xf n e) [])=( some [n2=n,(0:Int)=e]):=by kernel_rfl
theorem QY3(n e:Int):QG 112 [(AV.tup [vi (↑L.1:Int),vj (0:Int)])] ([]) (KT 112 (Xf n e) [])=( some [(↑L.1:Int)=n,(0:Int)=e]):=by kernel_rfl
def YN(x:Pt):Bool:=Qv x.cell 0 (i64.wrap ((d.ps.n:Int)-1))&&(Qv x.lay.piece 0 (i64.wrap ((d.ps.n:Int)-1))&&Qv x.lay.turn 0 (i64.wrap (tnV d x.lay.piece-1)))
def QHc:Bool:=decide (Ki (V7 ⟨k,get⟩ (get k))≥0)
def Jy:Bool := !YN d (get k)||QHc get k
def YG:Int:=cond (YN d (get k)) 5 2
open Classical in
noncomputable def QDh:List Prop->Bool:=if k<=1000 then QO else λ_=>false
noncomputable def jT(P:Program)(d:Puz)(L:Rc Pt)(k:Nat):Env:=mkE P (QGK (QDh k) d L k (Ki (V7 ⟨k,L.get⟩ (L.get k))))
theorem QNT:(jT prog d L k).Sound:=by
 unfold jT QDh
 by_cases h:k<=1000
 .rw[if_pos h];exact QQ ((Qd.add (YL d 0 _)).add (QWm (.lit L.c) ⟨k,L.get⟩ (L.get k) h))
 .rw[if_neg h];exact QQ ((Qd.add (JY (by kernel_rfl) _)).add (JY (by kernel_rfl) _))
def qm(e:Ex)(J:JSt):Prop:=match QX (Jy d L.get) (L.n-k) k with
 | some i=>e = .ret/\J=X9 0 (YG d L.get i)
 | none=>e = .exit 1/\J=QBa d E L
theorem QWh(hn:L.n<=1000)(hc:L.n<=L.c):Jd (QAL d E L) (λk=>k<=L.n) (λk=>L.n-k) (qm d E L) 112 QMb [200,201] (jT prog d L) (λk=>hnd (jT prog d L k) 2) (QJ f19 0):=by
 refine⟨λk g0 hk=>?_⟩;have hk:k<=L.n:=hk;have hk1:k<=1000:=Nat.le_trans hk hn;have hpb:QDh k=QO:=by unfold QDh;rw[if_pos hk1]
 have hit:∀(_:k<L.n) (e:Int),Jy d L.get k=true->YG d L.get k=e->qm d E L k .ret (X9 0 e):=by
  intro h e hb he;unfold qm;rw[(VX h).1 hb];exact⟨rfl,by rw[he]⟩
 unfold jT;rw[hpb];have et:=Qb2 QO d E L k (Ki (V7 ⟨k,L.get⟩ (L.get k))) g0;refine Qf et ?_;clear et;refine QF (λb0=>?_) (λb0=>?_);have h:k<L.n:=by have:=qdt b0;omega
 have hf:=VX (p:=Jy d L.get) h
 iterate 3 (refine QH ?_ ?_;rotate_left)
 refine QF (λb1=>?_) (λb1=>?_);have hp:YN d (L.get k)=false:=by unfold YN;rw[show Qv (L.get k).cell 0 (i64.wrap ((d.ps.n:Int)-1))=false by simpa using b1];rfl
 refine⟨_,hit h 2 (by unfold Jy;rw[hp];rfl) (by unfold YG;rw[hp];rfl),rfl,rfl,_,Qdh d E 0 2,?_⟩
 rotate_left
 refine QH ?_ ?_;rotate_left;refine QF (λb2=>?_) (λb2=>?_);have hp:YN d (L.get k)=false:=by unfold YN;rw[show Qv (L.get k).lay.piece 0 (i64.wrap ((d.ps.n:Int)-1))=false by simpa using b2];simp
 refine⟨_,hit h 2 (by unfold Jy;rw[hp];rfl) (by unfold YG;rw[hp];rfl),rfl,rfl,_,QU7 d E 0 2,?_⟩
 rotate_left
 iterate 2 (refine QH ?_ ?_;rotate_left)
 refine QF (λb3=>?_) (λb3=>?_);have hp:YN d (L.get k)=false:=by unfold YN;rw[show Qv (L.get k).lay.turn 0 (i64.wrap (tnV d (L.get k).lay.piece-1))=false by simpa using b3];simp
 refine⟨_,hit h 2 (by unfold Jy;rw[hp];rfl) (by unfold YG;rw[hp];rfl),rfl,rfl,_,QS7 d E 0 2,?_⟩
 rotate_left
 iterate 2 (refine QH ?_ ?_;rotate_left)
 refine QF (λb4=>?_) (λb4=>?_);have hp:YN d (L.get k)=true:=by unfold YN;rw[show Qv (L.get k).cell 0 (i64.wrap ((d.ps.n:Int)-1))=true by simpa using b1,show Qv (L.get k).lay.piece 0 (i64.wrap ((d.ps.n:Int)-1))=true by simpa using b2,show Qv (L.get k).lay.turn 0 (i64.wrap (tnV d (L.get k).lay.piece-1))=true by simpa using b3];rfl
 have hd:QHc L.get k=true:=b4;refine⟨_,hit h 5 (by unfold Jy;rw[hd];simp) (by unfold YG;rw[hp];rfl),rfl,rfl,_,QaH d E 0 5,?_⟩
 rotate_left
 have hp:YN d (L.get k)=true:=by unfold YN;rw[show Qv (L.get k).cell 0 (i64.wrap ((d.ps.n:Int)-1))=true by simpa using b1,show Qv (L.get k).lay.piece 0 (i64.wrap ((d.ps.n:Int)-1))=true by simpa using b2,show Qv (L.get k).lay.turn 0 (i64.wrap (tnV d (L.get k).lay.piece-1))=true by simpa using b3];rfl
 have hd:QHc L.get k=false:=b4;have hb:Jy d L.get k=false:=by unfold Jy;rw[hp,hd];rfl
 refine⟨k+1,h,by show L.n-(k+1)<L.n-k;omega,λe J h=>by unfold qm at h ⊢;rw[hf.2 hb];exact h,rfl,rfl,_,Qcd d E L k (k+1),?_⟩
 rotate_left
 have h:L.n<=k:=by have:=qdf b0;omega
 refine⟨_,(by unfold qm;rw[show L.n-k=0 by omega];exact⟨rfl,rfl⟩),rfl,rfl,_,QTN d E L,?_⟩
 rotate_left
 all_goals first|((with_reducible show _=true);(first|rfl|(refine Q6.2 ?_;repeat' first|with_reducible refine QP ?_ ?_|exact tv|with_reducible exact qRr|exact rfl|(show k<=L.n;omega)|refine aI ?_ ?_)|(simp;done)|(simp;omega)))|(repeat' first|exact tv|with_reducible refine QP ?_ ?_|exact qlr _|with_reducible exact qRr|exact Ju h hn|exact rfl|refine aI ?_ ?_)
def QAB:Rw Pt:=⟨k+1,get⟩
def XM(get:Nat->Pt)(k:Nat):Bool := !hsV d E (Qq (QAB get k))
open Classical in
noncomputable def jh(P:Program)(d:Puz)(E:ECt)(L:Rc Pt)(k:Nat):Env:=mkE P (QIZ (if k<1000 then QO else λ_=>false) d E (.lit L.c) (QAB L.get k) (hsV d E (Qq (QAB L.get k))))
theorem QSi{d:Puz}{E:ECt}(hd:KI d)(hE:WfE E)(L:Rc Pt)(k:Nat):(jh prog d E L k).Sound:=by
 unfold jh
 by_cases h:k<1000
 .rw[if_pos h];exact QQ (Qd.add (QF2 (.lit L.c) hd hE (show k+1<=1000 by omega)))
 .rw[if_neg h];exact QQ (Qd.add (JY (by kernel_rfl) _))
def zb(e:Ex)(J:JSt):Prop:=match QX (XM d E L.get) (L.n-k) k with
 | some i=>e = .ret/\J=X9 i 0
 | none=>e = .exit 4/\J=QDZ L
theorem QT6(hn:L.n<=1000)(hc:L.n<=L.c):Jd (QAI d E L) (λk=>k<=L.n) (λk=>L.n-k) (zb d E L) 112 QMK [200,201] (jh prog d E L) (λk=>hnd (jh prog d E L k) 0) (QJ f19 1):=by
 refine⟨λk g0 hk=>?_⟩;have hk:k<=L.n:=hk;unfold jh;have et:=QUD (if k<1000 then QO else λ_=>false) d E L (QAB L.get k) k (hsV d E (Qq (QAB L.get k))) g0
 refine Qf et ?_;clear et;refine QF (λb0=>?_) (λb0=>?_);have h:k<L.n:=by have:=qdt b0;omega
 have hf:=VX (p:=XM d E L.get) h;have hw:=Ju h hn;have hw2:(i64.wrap ((k:Int)+1)).toNat=k+1:=by rw[hw];exact Int.toNat_natCast _
 rw[if_pos (show k<1000 by omega)]
 iterate 2 (refine QH ?_ ?_;rotate_left)
 refine QF (λb1=>?_) (λb1=>?_);have hb:XM d E L.get k=true:=b1;refine⟨_,(by unfold zb;rw[hf.1 hb];exact⟨rfl,rfl⟩),rfl,rfl,_,QfA d E k k 0,?_⟩
 rotate_left
 have hb:XM d E L.get k=false:=b1;refine⟨k+1,h,by show L.n-(k+1)<L.n-k;omega,λe J h=>by unfold zb at h ⊢;rw[hf.2 hb];exact h,rfl,rfl,_,QTO d E L k (k+1),?_⟩
 rotate_left
 have h:L.n<=k:=by have:=qdf b0;omega
 refine⟨_,(by unfold zb;rw[show L.n-k=0 by omega];exact⟨rfl,rfl⟩),rfl,rfl,_,QSw d E L,?_⟩
 rotate_left
 all_goals first|((with_reducible show _=true);(first|(rw[hw];simp;omega)|(refine Q6.2 ?_;repeat' first|with_reducible refine QP ?_ ?_|exact tv|with_reducible exact qRr|exact qRr|exact hw2|exact hw2.symm|exact Nat.le_of_eq hw2|exact Nat.le_of_eq hw2.symm|exact rfl|(show k+1<=L.n;omega)|refine aI ?_ ?_)))|(repeat' first|exact tv|with_reducible refine QP ?_ ?_|exact qlr _|with_reducible exact qRr|exact hw|exact rfl|refine aI ?_ ?_)
def Gt(get:Nat->Pt)(n:Nat):Int:=match QX (XM d E get) n 0 with
 | some i=>i
 | none=>n
def QbY(get:Nat->Pt)(n:Nat):Int×Int:=match QX (Jy d get) n 0 with
 | some i=>(0,YG d get i)
 | none=>cond (hsV d E (Qq Y1)) (Gt d E get n,0) (0,4)
def HH(n:Nat):Int×Int:=cond d.ok (cond (decide ((n:Int)>20)) (0,3) (QbY d (QM d) get n)) (0,1)
def Vk:WF (Puz×Rc Pt×Unit):=λ|(d,L,_)=>(decide (d.ps.n<=1000/\L.n<=1000/\L.n<=L.c),Xf (HH d L.get L.n).1 (HH d L.get L.n).2,[])
def QM9:FC:=wFC Vk
theorem QKx:WOk (Vk (d,L,())).2.1 (Vk (d,L,())).2.2:=⟨rfl,by simp[Vk],rfl⟩
def jr:List (Prop×Ex×JSt):=[((QX (Jy d L.get) L.n 0).isSome=true,.ret,X9 0 (YG d L.get ((QX (Jy d L.get) L.n 0).getD 0))),(QX (Jy d L.get) L.n 0=none,.exit 1,QBa d E L)]
def jJ:List (Prop×Ex×JSt):=[((QX (XM d E L.get) L.n 0).isSome=true,.ret,X9 (((QX (XM d E L.get) L.n 0).getD 0:Nat):Int) 0),(QX (XM d E L.get) L.n 0=none,.exit 4,QDZ L)]
theorem QVR:Ky (Qp f19)=[.loop (QJ f19 0),.loop (QJ f19 1)]:=by kernel_rfl
theorem QN3(pb:List Prop->Bool)(v:Bool)(hT:Qe (Y8 pb d (QM d) v))(hn:L.n<=1000)(hc:L.n<=L.c)(G:Ctx)(hrd:G.rd=none)(hG:G.n=112):Qu (mkE prog (Y8 pb d (QM d) v)) G (QBk prog pb d (QM d) L v (jr d (QM d) L) (jJ d (QM d) L)) (Qp f19):=by
 refine QWt (QQ hT) hrd ?_;rw[QVR];intro s hs;simp only[List.mem_cons,List.not_mem_nil,or_false]at hs;rcases hs with rfl|rfl
 .have e:QGO d (QM d) L (jr d (QM d) L) (jJ d (QM d) L) (.loop (QJ f19 0))=JI (d.ok=true) (KE 112 [200,201] (QAL d (QM d) L 0) (jr d (QM d) L)):=by kernel_rfl
  rw[e];refine Jm λho=>?_;refine Jt (E0:=mkE prog (Y8 pb d (QM d) v)) (E:=jT prog d L) (H:=λk=>hnd (jT prog d L k) 2) (n0:=112) (s0:=0) (λ_=>rfl) (QNT d L) (by omega) (λk _=>Q1 (QNT d L k) 2 G _ hrd) (λk _=>(by decide:112<=400)) ?_ (QWh d (QM d) L hn hc) (Nat.zero_le _) ?_
  .intro k e J h;unfold qm at h;split at h<;>(rw[h.2];exact(by decide:112<=400))
  .intro e J h;unfold qm at h;rw[Nat.sub_zero]at h;unfold jr;cases hf:QX (Jy d L.get) L.n 0 with
   | some i=>rw[hf]at h;exact⟨_,qmc,rfl,h.1.symm,h.2.symm⟩
   | none=>rw[hf]at h;exact⟨_,List.mem_cons_of_mem _ qmc,rfl,h.1.symm,h.2.symm⟩
 .have e:QGO d (QM d) L (jr d (QM d) L) (jJ d (QM d) L) (.loop (QJ f19 1))=JI (d.ok=true) (KE 112 [200,201] (QAI d (QM d) L 0) (jJ d (QM d) L)):=by kernel_rfl
  rw[e];refine Jm λho=>?_;have hd:=(jx (jy ho)).1;have hE:=(Y5 d hd.n).w;refine Jt (E0:=mkE prog (Y8 pb d (QM d) v)) (E:=jh prog d (QM d) L) (H:=λk=>hnd (jh prog d (QM d) L k) 0) (n0:=112) (s0:=0) (λ_=>rfl) (QSi hd hE L) (by omega) (λk _=>Q1 (QSi hd hE L k) 0 G _ hrd) (λk _=>(by decide:112<=400)) ?_ (QT6 d (QM d) L hn hc) (Nat.zero_le _) ?_
  .intro k e J h;unfold zb at h;split at h<;>(rw[h.2];exact(by decide:112<=400))
  .intro e J h;unfold zb at h;rw[Nat.sub_zero]at h;unfold jJ;cases hf:QX (XM d (QM d) L.get) L.n 0 with
   | some i=>rw[hf]at h;exact⟨_,qmc,rfl,h.1.symm,h.2.symm⟩
   | none=>rw[hf]at h;exact⟨_,List.mem_cons_of_mem _ qmc,rfl,h.1.symm,h.2.symm⟩
theorem QVk(hx:(Vk (d,L,())).1=true)(ho:d.ok=false):QR prog 19 (wFC (VJ Vk (d,L,()))):=by
 obtain⟨hn,hl,hc⟩:=qdt hx;have hT:Qe (Y8 (λ_=>false) d (QM d) false):=(Qd.add (JY (by kernel_rfl) _)).add (JY (by kernel_rfl) _)
 refine Yk (c:=Qp f19) (E:=mkE prog (Y8 (λ_=>false) d (QM d) false)) (H:=QBk prog (λ_=>false) d (QM d) L false (jr d (QM d) L) (jJ d (QM d) L)) (QQ hT) func19 (by kernel_rfl) (by kernel_rfl) (N:=112) (by decide) (d,L,()) (λG h1 h2=>QN3 d L _ _ hT hl hc G h1 h2) (QKx d L) ?_
 have hv:HH d L.get L.n=(0,1):=by simp only[HH,ho,cond_false]
 refine Qf (QQY (λ_=>false) d (QM d) L false _ _ _ _ _ _) ?_;refine QH (by simp;omega) (QF (λ_=>?_) (λh=>by rw[ho]at h;cases h))
 simp only[Vk,hv];refine⟨rfl,rfl,_,QfK 0 1,?_⟩
 repeat' first|with_reducible refine QP ?_ ?_|exact tv|with_reducible exact qRr|exact rfl|refine aI ?_ ?_
theorem QaW(hx:(Vk (d,L,())).1=true)(ho:d.ok=true):QR prog 19 (wFC (VJ Vk (d,L,()))):=by
 obtain⟨hn,hl,hc⟩:=qdt hx;have hd:=(jx (jy ho)).1;have hE:=(Y5 d hd.n).w;have hT:Qe (Y8 QO d (QM d) (hsV d (QM d) (Qq Y1))):=(Qd.add (Zz d (by omega))).add (QF2 (.of 0) hd hE (show(0:Nat)<=1000 by decide))
 refine Yk (c:=Qp f19) (E:=mkE prog (Y8 QO d (QM d) (hsV d (QM d) (Qq Y1)))) (H:=QBk prog QO d (QM d) L (hsV d (QM d) (Qq Y1)) (jr d (QM d) L) (jJ d (QM d) L)) (QQ hT) func19 (by kernel_rfl) (by kernel_rfl) (N:=112) (by decide) (d,L,()) (λG h1 h2=>QN3 d L _ _ hT hl hc G h1 h2) (QKx d L) ?_
 have hv:HH d L.get L.n=cond (decide ((L.n:Int)>20)) (0,3) (match QX (Jy d L.get) L.n 0 with
   | some i=>(0,YG d L.get i)
   | none=>cond (hsV d (QM d) (Qq Y1)) (Gt d (QM d) L.get L.n,0) (0,4)):=by simp only[HH,ho,cond_true];rfl
 have et:=QQY QO d (QM d) L (hsV d (QM d) (Qq Y1)) ((QX (Jy d L.get) L.n 0).isSome=true) (QX (Jy d L.get) L.n 0=none) ((QX (XM d (QM d) L.get) L.n 0).isSome=true) (QX (XM d (QM d) L.get) L.n 0=none) (YG d L.get ((QX (Jy d L.get) L.n 0).getD 0)) (((QX (XM d (QM d) L.get) L.n 0).getD 0:Nat):Int);refine Qf et ?_;clear et;refine QH ?_ ?_;rotate_left;refine QF ?_ ?_<;>intro b0
 .rw[ho]at b0;cases b0
 refine QH ?_ ?_;rotate_left;refine QF (λb1=>?_) (λb1=>?_);rw[show decide ((L.n:Int)>20)=true from b1,cond_true]at hv;simp only[Vk,hv];refine⟨rfl,rfl,_,QXu 0 3,?_⟩
 rotate_left
 iterate 43 refine Qt (by first|exact tv|exact ho|with_reducible exact qRr|exact rfl) ?_
 refine Kl ?_ ?_;refine Qj λa0=>?_;refine Qk λg0=>?_
 .rw[show decide ((L.n:Int)>20)=false from b1,cond_false]at hv;cases hf:QX (Jy d L.get) L.n 0 with
  | none=>rw[hf]at a0;cases a0
  | some i=>
  rw[hf]at hv;simp only[Vk,hv];refine⟨rfl,rfl,_,QZ9 (YG d L.get i) 0 (YG d L.get i),?_⟩
  repeat' first|with_reducible refine QP ?_ ?_|exact tv|with_reducible exact qRr|exact rfl|refine aI ?_ ?_
 refine Qj λa1=>?_;refine Qk λg1=>?_;refine QH ?_ ?_;rotate_left;refine QF (λb2=>?_) (λb2=>?_);rw[show decide ((L.n:Int)>20)=false from b1,cond_false,a1]at hv;simp only[show hsV d (QM d) (Qq Y1)=false by simpa using b2,cond_false]at hv
 simp only[Vk,hv];refine⟨rfl,rfl,_,Qfd 0 4,?_⟩
 rotate_left
 iterate 30 refine Qt (by first|exact tv|exact ho|with_reducible exact qRr|exact rfl) ?_
 refine Kl ?_ ?_;refine Qj λa2=>?_;refine Qk λg2=>?_
 .rw[show decide ((L.n:Int)>20)=false from b1,cond_false,a1]at hv;simp only[show hsV d (QM d) (Qq Y1)=true by simpa using b2,cond_true]at hv
  cases hf:QX (XM d (QM d) L.get) L.n 0 with
  | none=>rw[hf]at a2;cases a2
  | some i=>
  rw[show Gt d (QM d) L.get L.n=i by unfold Gt;rw[hf]]at hv
  simp only[Vk,hv];refine⟨rfl,rfl,_,QYJ i i 0,?_⟩
  repeat' first|with_reducible refine QP ?_ ?_|exact tv|with_reducible exact qRr|exact rfl|refine aI ?_ ?_
 refine Qj λa3=>?_;refine Qk λg3=>?_;rw[show decide ((L.n:Int)>20)=false from b1,cond_false,a1]at hv;simp only[show hsV d (QM d) (Qq Y1)=true by simpa using b2,cond_true]at hv
 rw[show Gt d (QM d) L.get L.n=L.n by unfold Gt;rw[a3]]at hv
 simp only[Vk,hv];refine⟨rfl,rfl,_,QY3 L L.n 0,?_⟩
 rotate_left
 all_goals first|((with_reducible show _=true);(first|(simp;done)|(refine Q6.2 ?_;repeat' first|with_reducible refine QP ?_ ?_|exact tv|with_reducible exact qRr|exact rfl|refine aI ?_ ?_)|(simp;omega)))|(repeat' first|with_reducible refine QP ?_ ?_|exact tv|with_reducible exact qRr|exact rfl|refine aI ?_ ?_)
theorem Qca(hx:(Vk (d,L,())).1=true):QR prog 19 (wFC (VJ Vk (d,L,()))):=by
 cases ho:d.ok with
 | false=>exact QVk d L hx ho
 | true=>exact QaW d L hx ho
theorem Qdq:QR prog 19 QM9:=vh (by kernel_rfl) λ|(d,L,()),hx=>Qca d L hx
def eqJ(x y:Jn):Bool:=x.a==y.a&&(x.i==y.i&&(x.b==y.b&&(x.j==y.j&&true)))
def atJ(L:List Jn)(i:Nat):Jn:=L.getD i ⟨0,0,0,0⟩
def jnC:List AV:=[vi x.a,vi x.i,vi x.b,vi x.j]
def frJ(id:Nat)(L:List Jn):Nat×Blk:=(id,.frz [.int .i64,.int .i64,.int .i64,.int .i64] L.length λi=>QA.enc (L.getD i ⟨0,0,0,0⟩))
def jiB(L:List Jn)(x:Jn):List (Nat×Blk):=[(16,.cellsR 0 67 (jnC x)),frJ 8 L]
def jiU(L:List Jn)(x:Jn)(v:Int):UC:=⟨0,⟨2,[(0,.slz 8 0 L.length (.of 0)),(1,.fn (.func 93) [.ptr 16 0 0])],jiB L x,24⟩,λ_=>.int false .i64 v,λ_=>[]⟩
def jiJ(L:List Jn)(x:Jn)(k:Nat):JSt:=⟨19,[(0,.slz 8 0 L.length (.of 0)),(1,.fn (.func 93) [.ptr 16 0 0]),(7,.int false .i64 L.length),(8,.int false .i64 k)],jiB L x,24⟩
abbrev zw:List CK:=
  (wbk)
noncomputable abbrev QIe:Nat×Blk:=
  (16,.cellsR 0 67 [vi x.a,vi x.i,vi x.b,vi x.j])
theorem QVP(L:List Jn)(x:Jn)(k:Nat)(g:Nat->Value):exec (mkE prog QT) (hnd (mkE prog QT) 2) (QJ f135 0) (JSt.inst (jiJ L x k) g) (Q9 [] QDp) = .br (decide ((k:Int)<(L.length:Int))) (.need (decide ((0:Int)<=(k:Int)/\(k:Int)<(L.length:Int))&&decide (L.length<=L.length)) (.need (decide (k<L.length)) (.br (x.a==(L.getD k (Jn.mk (0:Int) (0:Int) (0:Int) (0:Int))).a&&(x.i==(L.getD k (Jn.mk (0:Int) (0:Int) (0:Int) (0:Int))).i&&(x.b==(L.getD k (Jn.mk (0:Int) (0:Int) (0:Int) (0:Int))).b&&(x.j==(L.getD k (Jn.mk (0:Int) (0:Int) (0:Int) (0:Int))).j&&true)))) (.leaf (.tup [.nili,.ptr 19 0 0,vi (k:Int)]) ([])) (.leaf (.tup [.nilp,.ptr 19 0 0,.slz 8 0 L.length cO,.fn (Fn.func 93) [.ptr 16 0 0],vi (L.length:Int),vi (i64.wrap ((k:Int)+1))]) ([(8,.frz zw L.length λi=>QA.enc (L.getD i (Jn.mk (0:Int) (0:Int) (0:Int) (0:Int)))),(QIe x)]))))) (.leaf (.tup [.ptr 0 0 0,.ptr 19 0 0]) ([])):=by kernel_rfl
theorem Qdr(j:Int):QG 24 [vi (↑k:Int)] ([]) (Yf j)=( some [(↑k:Int)=j]):=by kernel_rfl
theorem QbN(L:List Jn)(x:Jn)(k k':Nat):QG 24 [AV.slz (8:Nat) (0:Nat) L.length cO,AV.fn (Fn.func (93:Nat)) [AV.ptr (16:Nat) (0:Nat) (0:Nat)],vi (↑L.length:Int),vi (i64.wrap ((↑k:Int)+(1:Int)))] ([((8:Nat),Blk.frz [CK.int i64,CK.int i64,CK.int i64,CK.int i64] L.length λi=>QA.enc (L.getD i (Jn.mk (0:Int) (0:Int) (0:Int) (0:Int)))),((16:Nat),Blk.cellsR (0:Nat) (67:Nat) [vi x.a,vi x.i,vi x.b,vi x.j])]) (jiJ L x k')=( some [0=0,L.length=L.length,cO=cO,Fn.func (93:Nat)=Fn.func (93:FuncId),0=0,0=0, (↑L.length:Int)=(↑L.length:Int),i64.wrap ((↑k:Int)+(1:Int))=(↑k':Int),x.a=x.a,x.i=x.i,x.b=x.b,x.j=x.j,L.length<=L.length,QB (4:Nat) L.length (λi=>QA.enc (L.getD i (Jn.mk (0:Int) (0:Int) (0:Int) (0:Int)))) λi=>QA.enc (L.getD i (Jn.mk (0:Int) (0:Int) (0:Int) (0:Int)))]):=by kernel_rfl
theorem QS0 :QG 24 [] ([]) Wm=( some []):=by kernel_rfl
abbrev jiH(P:Program)(L:List Jn)(x:Jn)(X:List (Prop×Ex×JSt)):Hnd:={ hnd (mkE P QT) 2 with loop:=λ_=>KE 24 [] (jiJ L x (0:Nat)) X }
theorem QX4(L:List Jn)(x:Jn)(A B:Prop)(k v:Int):VF (mkE prog QT) (jiH prog L x [(A,.ret,Yf k),(B,.exit 0,Wm)]) f135 (jiU L x v)=QC.ask (0=0) (QC.ask (L.length=L.length) (QC.ask (cO=cO) (QC.ask (Fn.func (93:FuncId)=Fn.func (93:FuncId)) (QC.ask (0=0) (QC.ask (0=0) (QC.ask ((↑L.length:Int)=(↑L.length:Int)) (QC.ask ((0:Int)=(0:Int)) (QC.ask (x.a=x.a) (QC.ask (x.i=x.i) (QC.ask (x.b=x.b) (QC.ask (x.j=x.j) (QC.ask (L.length<=L.length) (QC.ask (QB (4:Nat) L.length (λi=>QA.enc (L.getD i (Jn.mk (0:Int) (0:Int) (0:Int) (0:Int)))) λi=>QA.enc (L.getD i (Jn.mk (0:Int) (0:Int) (0:Int) (0:Int)))) (QC.both (QC.asm (A) (QC.all (λ(g0:Nat->Value)=>QC.leaf (vi k) ([])))) (QC.asm (B) (QC.all (λ(g1:Nat->Value)=>QC.leaf (vj (-1:Int)) ([])))))))))))))))))):=by kernel_rfl
theorem QaS(L:List Jn)(x:Jn)(k v:Int):QG 24 [(vi k)] ([]) (KP (jiU L x v))=( some [k=v]):=by kernel_rfl
theorem QX2(L:List Jn)(x:Jn)(v:Int):QG 24 [(vj (-1:Int))] ([]) (KP (jiU L x v))=( some [(-1:Int)=v]):=by kernel_rfl
def dlJ(o:List Jn)(i j:Nat):JSt:=⟨42,[(0,.slz 32 0 o.length (.of 0)),(1,.fn (.func 93) [.ptr 16 0 0]),(5,.int false .i64 i),(6,.int false .i64 j)],[(16,.cellsR 0 67 (jnC x)),rwJ true 32 o],40⟩
def dlE:JSt:=⟨42,[(0,.slz 32 0 o.length (.of 0)),(5,.int false .i64 i)],[rwJ true 32 o],40⟩
def QSM:Ex->List Nat
 | .normal=>[0,1,5,6]
 | .exit _=>[0,5]
 | .ret=>[]
noncomputable abbrev QJn(j:Nat)(o:List Jn):List AV:=
  [vi (o.getD j (Jn.mk (0:Int) (0:Int) (0:Int) (0:Int))).a,vi (o.getD j (Jn.mk (0:Int) (0:Int) (0:Int) (0:Int))).i,vi (o.getD
  j (Jn.mk (0:Int) (0:Int) (0:Int) (0:Int))).b,vi (o.getD j (Jn.mk (0:Int) (0:Int) (0:Int) (0:Int))).j]
noncomputable abbrev QMw(j:Nat)(o:List Jn)(x:Jn):List (Nat×Blk):=
  [(32,.rowz true 67 zw o.length λi_1=>bif decide (i_1=i)then KZ (QJn j o) 0 (QA.enc (o.getD i (Jn.mk (0:Int) (0:Int) (0:Int) (0:Int))))else QA.enc (o.getD
  i_1 (Jn.mk (0:Int) (0:Int) (0:Int) (0:Int)))),(QIe x)]
theorem QY0(o:List Jn)(i j:Nat)(g:Nat->Value):exec (mkE prog QT) (hnd (mkE prog QT) 2) (QJ f92 0) (JSt.inst (dlJ x o i j) g) (Q9 [] QSM) = .br (decide ((j:Int)<(o.length:Int))) (.need (decide ((0:Int)<=(j:Int)/\(j:Int)<(o.length:Int))&&decide (o.length<=o.length)) (.need (decide (j<o.length)) (.br (!(x.a==(o.getD j (Jn.mk (0:Int) (0:Int) (0:Int) (0:Int))).a&&(x.i==(o.getD j (Jn.mk (0:Int) (0:Int) (0:Int) (0:Int))).i&&(x.b==(o.getD j (Jn.mk (0:Int) (0:Int) (0:Int) (0:Int))).b&&(x.j==(o.getD j (Jn.mk (0:Int) (0:Int) (0:Int) (0:Int))).j&&true))))) (.need (decide ((0:Int)<=(i:Int)/\(i:Int)<(o.length:Int))&&decide (o.length<=o.length)) (.need (decide (i<o.length)) (.leaf (.tup [.nilp,.ptr 42 0 0,.slz 32 0 o.length cO,.fn (Fn.func 93) [.ptr 16 0 0],vi (i64.wrap ((i:Int)+1)), vi (i64.wrap ((j:Int)+1))]) ((QMw i j o x))))) (.leaf (.tup [.nilp,.ptr 42 0 0,.slz 32 0 o.length cO,.fn (Fn.func 93) [.ptr 16 0 0],vi (i:Int),vi (i64.wrap ((j:Int)+1))]) ([(32,.rowz true 67 zw o.length λi=>QA.enc (o.getD i (Jn.mk (0:Int) (0:Int) (0:Int) (0:Int)))),(QIe x)]))))) (.leaf (.tup [.ptr 0 0 0,.ptr 42 0 0,.slz 32 0 o.length cO,vi (i:Int)]) ([(32,.rowz true 67 zw o.length λi=>QA.enc (o.getD i (Jn.mk (0:Int) (0:Int) (0:Int) (0:Int))))])):=by kernel_rfl
theorem QUC(o o':List Jn)(i j i' j':Nat):QG 24 [.slz 32 0 o.length cO,.fn (Fn.func 93) [.ptr 16 0 0],vi (i64.wrap ((i:Int)+1)),vi (i64.wrap ((j:Int)+1))] ((QMw i j o x)) (dlJ x o' i' j')=(some [0=0,o.length=o'.length,cO=cO,Fn.func 93=Fn.func (93:FuncId),0=0,0=0,i64.wrap ((i:Int)+1)=(i':Int),i64.wrap ((j:Int)+1)=(j':Int),x.a=x.a,x.i=x.i,x.b=x.b,x.j=x.j,o'.length<=o.length,QB 4 o'.length (λi_1=>bif decide (i_1=i)then KZ (QJn j o) 0 (QA.enc (o.getD i (Jn.mk (0:Int) (0:Int) (0:Int) (0:Int))))else QA.enc (o.getD i_1 (Jn.mk (0:Int) (0:Int) (0:Int) (0:Int)))) λi=>QA.enc (o'.getD i (Jn.mk (0:Int) (0:Int) (0:Int) (0:Int)))]):=by kernel_rfl
noncomputable abbrev wcv(o:List Jn):List Prop:=[o.length<=o.length,QB (4:Nat) o.length (λi=>QA.enc (o.getD i (Jn.mk (0:Int) (0:Int) (0:Int) (0:Int)))) λi=>QA.enc (o.getD i (Jn.mk (0:Int) (0:Int) (0:Int) (0:Int)))]
theorem Qds(o:List Jn)(i j j':Nat):QG 24 [AV.slz (32:Nat) (0:Nat) o.length cO,AV.fn (Fn.func (93:Nat)) [AV.ptr (16:Nat) (0:Nat) (0:Nat)],vi (↑i:Int),vi (i64.wrap ((↑j:Int)+(1:Int)))] ([((32:Nat),Blk.rowz true (67:Nat) [CK.int i64,CK.int i64,CK.int i64,CK.int i64] o.length λi=>QA.enc (o.getD i (Jn.mk (0:Int) (0:Int) (0:Int) (0:Int)))),((16:Nat),Blk.cellsR (0:Nat) (67:Nat) [vi x.a,vi x.i,vi x.b,vi x.j])]) (dlJ x o i j')=( some ([0=0,o.length=o.length,cO=cO,Fn.func (93:Nat)=Fn.func (93:FuncId),0=0,0=0,(↑i:Int)=(↑i:Int),i64.wrap ((↑j:Int)+(1:Int))=(↑j':Int),x.a=x.a,x.i=x.i,x.b=x.b,x.j=x.j]++wcv o)):=by kernel_rfl
theorem Qbz(i:Nat):QG 24 [AV.slz (32:Nat) (0:Nat) o.length cO,vi (↑i:Int)] ([((32:Nat),Blk.rowz true (67:Nat) [CK.int i64,CK.int i64,CK.int i64,CK.int i64] o.length λi=>QA.enc (o.getD i (Jn.mk (0:Int) (0:Int) (0:Int) (0:Int))))]) (dlE o i)=( some ([0=0,o.length=o.length,cO=cO,(↑i:Int)=(↑i:Int)]++wcv o)):=by kernel_rfl
def jO(L:List Jn)(x:Jn)(v:Int):Tab:=Qc QT 135 (KB pb (jiU L x v))
def ZX(L:List Jn)(x:Jn)(w:List Jn):UC:=⟨0,⟨2,[(0,.slz 8 0 L.length (.of 0)),(1,.fn (.func 93) [.ptr 16 0 0])],[rwJ true 8 L,(16,.cellsR 0 67 (jnC x))],24⟩,λm=>.slz m 0 w.length (.of 0),λm=>[rwJ true m w]⟩
abbrev dlH(P:Program)(pb:List Prop->Bool)(L:List Jn)(x:Jn)(v:Int)(i0:Nat)(X:List (Prop×Ex×JSt)):Hnd:={ hnd (mkE P (jO pb L x v)) 2 with loop:=λ_=>JI (i0<L.length) (KE 24 [] (dlJ x L i0 (i0+1)) X) }
noncomputable abbrev wbX(L:List Jn)(x:Jn):List Prop:=[x.a=x.a,x.i=x.i,x.b=x.b,x.j=x.j,L.length<=L.length,QB 4 L.length (λi=>QA.enc (L.getD i (Jn.mk (0:Int) (0:Int) (0:Int) (0:Int)))) λi=>QA.enc (L.getD i (Jn.mk (0:Int) (0:Int) (0:Int) (0:Int)))]
theorem QTM(L:List Jn)(x:Jn)(v:Int)(i0:Nat)(o':List Jn)(i':Nat)(w:List Jn):VF (mkE prog (jO pb L x v)) (dlH prog pb L x v i0 [(True,.exit 0,dlE o' i')]) f92 (ZX L x w) = .need (pb (([0=0,L.length=L.length,cO=cO,Fn.func 93=Fn.func 93,0=0,0=0]++wbX L x))) (.br (v == -1) (.leaf (.slz 8 0 L.length cO) ([(8,.rowz true 67 zw L.length λi=>QA.enc (L.getD i (Jn.mk (0:Int) (0:Int) (0:Int) (0:Int))))])) (.ak ([i0<L.length,0=0,L.length=L.length,cO=cO,Fn.func (93:FuncId)=Fn.func (93:FuncId),0=0,0=0,v=(i0:Int),i64.wrap (v+1)=(↑(i0+1):Int)]++wbX L x) (.asm (True) (.all (λ(g0:Nat->Value)=>.need (decide ((0:Int)<=(i':Int)/\i'<=o'.length/\i'<o'.length-0)) (.need (decide (0+i'+(o'.length-i')<=o'.length/\0<o'.length)) (.need (decide ((0:Int)<=(i':Int)/\i'<=o'.length-0)) (.leaf (.slz 32 0 i' cO) ([(32,.rowz true 67 zw o'.length λi=>bif decide (0+i'<=i/\i<0+i'+(o'.length-i'))then λx=>(0:Int)else QA.enc (o'.getD i (Jn.mk (0:Int) (0:Int) (0:Int) (0:Int))))]))))))))):=by kernel_rfl
theorem QTx(L:List Jn)(x:Jn)(w:List Jn):QG 24 [(AV.slz (8:Nat) (0:Nat) L.length cO)] ([((8:Nat),Blk.rowz true (67:Nat) [CK.int i64,CK.int i64,CK.int i64,CK.int i64] L.length λi=>QA.enc (L.getD i (Jn.mk (0:Int) (0:Int) (0:Int) (0:Int))))]) (KP (ZX L x w))=( some [0=0,L.length=w.length,cO=cO,w.length<=L.length,QB (4:Nat) w.length (λi=>QA.enc (L.getD i (Jn.mk (0:Int) (0:Int) (0:Int) (0:Int)))) λi=>QA.enc (w.getD i (Jn.mk (0:Int) (0:Int) (0:Int) (0:Int)))]):=by kernel_rfl
theorem Qao(L:List Jn)(x:Jn)(o':List Jn)(i':Nat)(w:List Jn):QG 24 [(AV.slz (32:Nat) (0:Nat) i' cO)] ([((32:Nat),Blk.rowz true (67:Nat) [CK.int i64,CK.int i64,CK.int i64,CK.int i64] o'.length λi=>bif decide ((0:Nat)+i'<=i/\i<(0:Nat)+i'+(o'.length-i'))then λx=>(0:Int)else QA.enc (o'.getD i (Jn.mk (0:Int) (0:Int) (0:Int) (0:Int))))]) (KP (ZX L x w))=( some [0=0,i'=w.length,cO=cO,w.length<=o'.length,QB (4:Nat) w.length (λi=>bif decide ((0:Nat)+i'<=i/\i<(0:Nat)+i'+(o'.length-i'))then λx=>(0:Int)else QA.enc (o'.getD i (Jn.mk (0:Int) (0:Int) (0:Int) (0:Int)))) λi=>QA.enc (w.getD i (Jn.mk (0:Int) (0:Int) (0:Int) (0:Int)))]):=by kernel_rfl
theorem QJ5{p:Nat->Bool}:∀{m k i:Nat},QX p m k=some i->k<=i/\i<k+m/\p i=true/\∀ j,k<=j->j<i->p j=false
 | 0,k,i,h=>by cases h
 | m+1,k,i,h=>by
  simp only[QX]at h;split at h
  .rename_i hk;simp only[qsI]at h;subst h;exact⟨qlr _,by omega,hk,λj h1 h2=>by omega⟩
  .rename_i hk;obtain⟨h1,h2,h3,h4⟩:=QJ5 h;refine⟨by omega,by omega,h3,λj h5 h6=>?_⟩
   rcases Nat.eq_or_lt_of_le h5 with rfl|h7
   .exact hk
   .exact h4 j h7 h6
def K1(L:List Jn)(x:Jn):Option Nat:=QX (λi=>eqJ x (atJ L i)) L.length 0
def Js(L:List Jn):List Jn:=L.filter λy=>!eqJ x y
def JV(x:Jn):Nat->List Jn->Nat->Nat->List Jn×Nat
 | 0,o,i,_=>(o,i)
 | m+1,o,i,j=>cond (eqJ x (atJ o j)) (JV x m o i (j+1)) (JV x m (o.set i (atJ o j)) (i+1) (j+1))
theorem QBj{L:List Jn}{i:Nat}(h:i<L.length):atJ L i=L[i]:=Xe h
theorem QFH(x:Jn)(L:List Jn):∀(m:Nat) (o:List Jn) (i j:Nat),o.length=L.length->i<j->j+m=L.length->(∀ k,j<=k->atJ o k=atJ L k)->o.take i=Js x (L.take j) ->
  (JV x m o i j).1.length=L.length/\(JV x m o i j).2<L.length/\(JV x m o i j).1.take (JV x m o i j).2=Js x L
 | 0,o,i,j,h1,h2,h3,_,h5=>by
  refine⟨h1,by show i<_;omega,?_⟩
  show o.take i=_;rw[h5,List.take_of_length_le (by omega)]
 | m+1,o,i,j,h1,h2,h3,h4,h5=>by
  have hj:j<L.length:=by omega
  have hy:atJ o j=L[j]:=by rw[h4 j (qlr _),QBj hj]
  have ht:L.take (j+1)=L.take j++[L[j]]:=by rw[List.take_succ_eq_append_getElem hj]
  simp only[JV];cases he:eqJ x (atJ o j)with
  | true=>
   simp only[cond_true];refine QFH x L m o i (j+1) h1 (by omega) (by omega) (λk hk=>h4 k (by omega)) ?_
   rw[hy]at he;rw[h5,ht];unfold Js;rw[List.filter_append];simp[he]
  | false=>
   simp only[cond_false];rw[hy]at he ⊢;refine QFH x L m _ (i+1) (j+1) (by rw[List.length_set];exact h1) (by omega) (by omega) (λk hk=>?_) ?_
   .rw[<-h4 k (by omega)]
    unfold atJ;rw[List.getD_eq_getElem?_getD,List.getD_eq_getElem?_getD,List.getElem?_set_ne (by omega)]
   .have hi:i<o.length:=by omega
    rw[List.take_succ_eq_append_getElem (by rw[List.length_set];exact hi),List.getElem_set_self,List.take_set_of_le (qlr i),h5,ht]
    unfold Js;rw[List.filter_append];simp[he]
theorem Qfn{x:Jn}{L:List Jn}(h:K1 L x=none):Js x L=L:=by
 unfold Js;rw[List.filter_eq_self];intro y hy;obtain⟨i,hi,rfl⟩:=List.mem_iff_getElem.1 hy;have:=QC3 h i (Nat.zero_le _) (by omega)
 rw[QBj hi]at this;rw[this];rfl
theorem QT2{x:Jn}{L:List Jn}{i:Nat}(h:K1 L x=some i):i<L.length/\(JV x (L.length-(i+1)) L i (i+1)).1.length=L.length/\(JV x (L.length-(i+1)) L i (i+1)).2<L.length/\(JV x (L.length-(i+1)) L i (i+1)).1.take (JV x (L.length-(i+1)) L i (i+1)).2=Js x L:=by
 obtain⟨_,h2,h3,h4⟩:=QJ5 h;have hi:i<L.length:=by omega
 refine⟨hi,QFH x L _ L i (i+1) rfl (by omega) (by omega) (λ_ _=>rfl) ?_⟩
 rw[List.take_succ_eq_append_getElem hi];unfold Js;rw[List.filter_append];rw[QBj hi]at h3
 have h5:(L.take i).filter (λy=>!eqJ x y)=L.take i:=by
  rw[List.filter_eq_self];intro y hy;obtain⟨j,hj,rfl⟩:=List.mem_iff_getElem.1 hy;rw[List.length_take]at hj;have:=h4 j (Nat.zero_le _) (by omega)
  rw[QBj (show j<L.length by omega)]at this
  rw[List.getElem_take,this];rfl
 rw[h5];simp[h3]
