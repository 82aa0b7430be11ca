/- - -/
import Derived.Test.YtekbmehgcofnkaaGreatVzzb
set_option linter.all false
noncomputable section
open Go.Proofs.Tryz
open Go.IntKind (i64)
set_option maxRecDepth 100000
namespace Go.Proofs.YtekbmehgcofnkaaGreat
open Go.SX Go.SX.Told
def QSg:Tab:=Qc (Qc (Qc (Qc (Qc QAU 15 QJO) 16 QA1) 24 (Zj QBb)) 26 (Zj QQ5)) 29 (Zj lyC)
theorem Qbr:Qf QSg:=((((QDe.add QU1).add QG8).add (Wq QDE)).add (Wq QkP)).add (Wq QcO)
variable (pb:List Prop->Bool)(w:Rw QU)(d:Puz)(D:Int)(L:List Lay)(k:Int)(c:Nat)(C:Int)(x:Lay)(R:Int)(q:Nat->Bool)
def VS:Tab:=Qc QSg 31 (trC pb w)
def tuS:List (Nat×AV):=[(2,.ptr 8 0 0),(9,.slz 232 0 L.length (.of 0)),(13,.fn (.func 31) [.ptr 368 0 0,.ptr 8 0 0,.ptr 640 0 0]),(64,.slz 232 0 L.length (.of 0)),(65,.int false .i64 L.length),(66,.int false .i64 c)]
def tuB(L:List Lay):List (Nat×Blk):=pkW w k++[(368,.cells 0 53 [.fn (.func 30) [.ptr 344 0 0,.ptr 16 0 0]]),(8,.cells 0 28 (KZ d)),(640,.cells 0 3 [vi D]),rwY 232 L]++Qg.blk 0 d.ps++Qg.blk 1 w
def W7:JSt:=⟨149,tuS L c,tuB w d D k L,696⟩
def QTd(R C:Int)(c:Nat):List (Nat×AV):=tuS L c++[(14,.int false .i64 c),(15,.ptr 696 0 0),(16,.int false .i64 R),(17,.int false .i64 C)]
def QUB(L:List Lay)(x:Lay):List (Nat×Blk):=(696,.cells 0 49 [vi x.piece,vi x.turn])::tuB w d D k L
def YL(R C:Int)(q:Nat->Bool)(s:Nat):JSt:=⟨149,QTd L R C c++[(93,.agg [.bool false (q 0),.bool false (q 1),.bool false (q 2),.bool false (q 3)]),(94,.int true .i64 s)],QUB w d D k L x,904⟩
def QK8(R C:Int):JSt:=⟨149,QTd L R C c,QUB w d D k L x,904⟩
def GP(n:Nat):JSt:=⟨149,[(4,.bool false true)],[],n⟩
def QI8:JSt:=⟨149,[],[],696⟩
def QOC:Ex->List Nat
 | .normal=>[2,9,13,64,65,66]
 | .exit _=>[]
 | .ret=>[4]
def QAe:Ex->List Nat
 | .normal=>[2,9,13,64,65,66,14,15,16,17,93,94]
 | .exit _=>[2,9,13,64,65,66,14,15,16,17]
 | .ret=>[4]
abbrev Yn:List AV:=[.ptr 368 0 0,.ptr 8 0 0,.ptr 640 0 0]
abbrev jI:List AV:=[.bool false (q 0),.bool false (q 1),.bool false (q 2),.bool false (q 3)]
abbrev wbx(L:List Lay):List AV:=[.ptr 8 0 0,.slz 232 0 L.length cO,.fn (Fn.func 31) Yn,.slz 232 0 L.length cO,vi (L.length:Int)]
abbrev wao(C:Int)(L:List Lay)(R:Int)(c:Nat):List AV:=(List.append (wbx L) ([vi (c:Int),vi (c:Int),.ptr 696 0 0,vi R,vi C]))
abbrev QMg(L:List Lay)(R:Int)(c:Nat)(q:Nat->Bool):List AV:=(.nilp::.ptr 149 0 0::List.append (wao C L R c) ([.agg (jI q),vj 1]))
abbrev Wy:Nat×Blk:=(8,.cells 0 28 (waf d))
abbrev Wn:Nat×Blk:=(232,.rowz true 49 kB L.length λi=>QA.enc (L.getD i (Lay.mk (0:Int) (0:Int))))
abbrev Wc:Nat×Blk:=(368,.cells 0 53 [.fn (Fn.func 30) [.ptr 344 0 0,.ptr 16 0 0]])
abbrev WW:Nat×Blk:=(640,.cells 0 3 [vi D])
abbrev WU:Nat×Blk:=(0,.frz (wae) d.ps.n λi=>QA.enc (d.ps.get i))
abbrev WR:Nat×Blk:=(16,.cells 0 41 [.slz 1 0 w.n cO])
abbrev W5:Nat×Blk:=(1,.frz [CK.int IntKind.u16] w.n λi=>QA.enc (w.get i))
abbrev XX(d:Puz)(k:Int)(w:Rw QU)(x:Lay):List (Nat×Blk):=[(Wy d),(Wn L),Wc,(WW D),(696,.cells 0 49 [vi x.piece,vi x.turn]),(WU d),(344,.cells 0 3 [vi k]),(WR w),(W5 w)]
abbrev wb7:List AV:=[.nili,.ptr 149 0 0,.bool true true]
theorem Qa1(R C:Int)(q:Nat->Bool)(g:Nat->Value):exec (mkF prog (VS pb w)) (hnd (mkF prog (VS pb w)) 0) (QW (QI f5 0)) (JSt.inst (YL w d D L k c x R C q 0) g) (Q5 [] QAe) = .br (q (0)) (.need (decide (d.ps.n<=d.ps.n)&&(true&&(true&&true))&&decide ((0:Int)<=x.piece/\x.piece<(d.ps.n:Int)/\(0:Int)<=x.turn/\x.turn<4/\(0:Int)<=0/\(0:Int)<4)) (.br ((KI (d.ps.get x.piece.toNat) (onS x (0:Int)).toNat).kind != 0) (.leaf (.tup (wb7)) ([])) (.leaf (.tup (QMg C L R c q)) ((XX D L d k w x))))) (.leaf (.tup (QMg C L R c q)) ((XX D L d k w x))):=by kernel_rfl
theorem QFH :QF 8 [AV.bool true true] ([]) (GP 904)=( some [true=true]):=by kernel_rfl
abbrev WQ:List Prop:=[0=0,0=0,0=0,L.length=L.length,cO=cO,Fn.func 31=Fn.func (31:FuncId),0=0,0=0,0=0,0=0,0=0,0=0,0=0,L.length=L.length,cO=cO,(L.length:Int)=(L.length:Int)]
abbrev QD1(c:Nat)(q:Nat->Bool):List Prop:=(wbu c++[0=0,0=0,R=R,C=C,q 0=q 0,q 1=q 1,q 2=q 2,q 3=q 3])
abbrev QBC(w:Rw QU)(x:Lay):List Prop:=(wbB x++[k=k,0=0,w.n=w.n])
abbrev WJ(d:Puz)(w:Rw QU):List Prop:=([cO=cO,Fn.func 30=Fn.func (30:FuncId),0=0,0=0,0=0,0=0]++waa d++(([cO=cO,D=D]++wbd L)++wad d++[w.n<=w.n,QB 1 w.n (λi=>QA.enc (w.get i)) λi=>QA.enc (w.get i)]))
theorem QSc(R C:Int)(q:Nat->Bool):QF 8 (List.append (wao C L R c) ([.agg (jI q),vj 1])) ((XX D L d k w x)) (YL w d D L k c x R C q 1)=(some ((WQ L) ++ (QD1 C R c q)++[(1:Int)=1]++(QBC k w x)++(WJ D L d w))):=by kernel_rfl
abbrev QSw(L:List Lay)(R:Int)(c:Nat)(q:Nat->Bool):List AV:=(.nilp::.ptr 149 0 0::List.append (wao C L R c) ([.agg (jI q),vj 2]))
theorem Qir(R C:Int)(q:Nat->Bool)(g:Nat->Value):exec (mkF prog (VS pb w)) (hnd (mkF prog (VS pb w)) 0) (QW (QI f5 0)) (JSt.inst (YL w d D L k c x R C q 1) g) (Q5 [] QAe) = .br (q (1)) (.need (decide (d.ps.n<=d.ps.n)&&(true&&(true&&true))&&decide ((0:Int)<=x.piece/\x.piece<(d.ps.n:Int)/\(0:Int)<=x.turn/\x.turn<4/\(0:Int)<=1/\(1:Int)<4)) (.br ((KI (d.ps.get x.piece.toNat) (onS x (1:Int)).toNat).kind != 0) (.leaf (.tup (wb7)) ([])) (.leaf (.tup (QSw C L R c q)) ((XX D L d k w x))))) (.leaf (.tup (QSw C L R c q)) ((XX D L d k w x))):=by kernel_rfl
theorem QPl(R C:Int)(q:Nat->Bool):QF 8 (List.append (wao C L R c) ([.agg (jI q),vj 2])) ((XX D L d k w x)) (YL w d D L k c x R C q 2)=(some ((WQ L) ++ (QD1 C R c q)++[(2:Int)=2]++(QBC k w x)++(WJ D L d w))):=by kernel_rfl
abbrev QSd(L:List Lay)(R:Int)(c:Nat)(q:Nat->Bool):List AV:=(.nilp::.ptr 149 0 0::List.append (wao C L R c) ([.agg (jI q),vj 3]))
theorem QlH(R C:Int)(q:Nat->Bool)(g:Nat->Value):exec (mkF prog (VS pb w)) (hnd (mkF prog (VS pb w)) 0) (QW (QI f5 0)) (JSt.inst (YL w d D L k c x R C q 2) g) (Q5 [] QAe) = .br (q (2)) (.need (decide (d.ps.n<=d.ps.n)&&(true&&(true&&true))&&decide ((0:Int)<=x.piece/\x.piece<(d.ps.n:Int)/\(0:Int)<=x.turn/\x.turn<4/\(0:Int)<=2/\(2:Int)<4)) (.br ((KI (d.ps.get x.piece.toNat) (onS x (2:Int)).toNat).kind != 0) (.leaf (.tup (wb7)) ([])) (.leaf (.tup (QSd C L R c q)) ((XX D L d k w x))))) (.leaf (.tup (QSd C L R c q)) ((XX D L d k w x))):=by kernel_rfl
theorem QTO(R C:Int)(q:Nat->Bool):QF 8 (List.append (wao C L R c) ([.agg (jI q),vj 3])) ((XX D L d k w x)) (YL w d D L k c x R C q 3)=(some ((WQ L) ++ (QD1 C R c q)++[(3:Int)=3]++(QBC k w x)++(WJ D L d w))):=by kernel_rfl
abbrev QQW(L:List Lay)(R:Int)(c:Nat)(q:Nat->Bool):List AV:=(.nilp::.ptr 149 0 0::List.append (wao C L R c) ([.agg (jI q),vj 4]))
theorem QeE(R C:Int)(q:Nat->Bool)(g:Nat->Value):exec (mkF prog (VS pb w)) (hnd (mkF prog (VS pb w)) 0) (QW (QI f5 0)) (JSt.inst (YL w d D L k c x R C q 3) g) (Q5 [] QAe) = .br (q (3)) (.need (decide (d.ps.n<=d.ps.n)&&(true&&(true&&true))&&decide ((0:Int)<=x.piece/\x.piece<(d.ps.n:Int)/\(0:Int)<=x.turn/\x.turn<4/\(0:Int)<=3/\(3:Int)<4)) (.br ((KI (d.ps.get x.piece.toNat) (onS x (3:Int)).toNat).kind != 0) (.leaf (.tup (wb7)) ([])) (.leaf (.tup (QQW C L R c q)) ((XX D L d k w x))))) (.leaf (.tup (QQW C L R c q)) ((XX D L d k w x))):=by kernel_rfl
theorem QTS(R C:Int)(q:Nat->Bool):QF 8 (List.append (wao C L R c) ([.agg (jI q),vj 4])) ((XX D L d k w x)) (YL w d D L k c x R C q 4)=(some ((WQ L) ++ (QD1 C R c q)++[(4:Int)=4]++(QBC k w x)++(WJ D L d w))):=by kernel_rfl
theorem QdA(R C:Int)(q:Nat->Bool)(g:Nat->Value):exec (mkF prog (VS pb w)) (hnd (mkF prog (VS pb w)) 0) (QW (QI f5 0)) (JSt.inst (YL w d D L k c x R C q 4) g) (Q5 [] QAe) = .leaf (.tup (.ptr 2 0 0::.ptr 149 0 0::wao C L R c)) ((XX D L d k w x)):=by kernel_rfl
theorem QWr(R C:Int)(q:Nat->Bool):QF 8 (wao C L R c) ((XX D L d k w x)) (QK8 w d D L k c x R C)=(some ((WQ L)++(wbu c++[0=0,0=0,R=R,C=C])++(QBC k w x)++(WJ D L d w))):=by kernel_rfl
abbrev tuH(P:Program)(pb:List Prop->Bool)(w:Rw QU)(d:Puz)(D:Int)(L:List Lay)(k:Int)(c:Nat)(x:Lay)(R C:Int)(q:Nat->Bool)(A:Prop):Hnd:={ hnd (mkF P (VS pb w)) 0 with loop:=λ_=>Ks (c<L.length) (KF 8 [] (YL w d D L k c x R C q 0) [(True,.ret,GP 904),(A,.exit 2,QK8 w d D L k c x R C)]) }
abbrev QJI:List Prop:=[w.n=w.n,w.n=w.n,QB 1 w.n (λi=>QA.enc (w.get i)) λi=>QA.enc (w.get i)]
abbrev QGY:List AV:=(.nilp::.ptr 149 0 0::List.append (wbx L) ([.int false .i64 (i64.wrap ((c:Int)+1))]))
abbrev QPn(d:Puz)(k:Int)(x:Lay):Nat×Blk:=(344,.cells 0 3 [vi (trK (trK k (KI (d.ps.get (L.getD (i64.wrap ((c:Int)-1)).toNat (Lay.mk (0:Int) (0:Int))).piece.toNat) (onS (L.getD (i64.wrap ((c:Int)-1)).toNat (Lay.mk (0:Int) (0:Int))) (1:Int)).toNat) (KI (d.ps.get x.piece.toNat) (onS x (3:Int)).toNat)) (KI (d.ps.get (L.getD (i64.wrap ((c:Int)-d.wide)).toNat (Lay.mk (0:Int) (0:Int))).piece.toNat) (onS (L.getD (i64.wrap ((c:Int)-d.wide)).toNat (Lay.mk (0:Int) (0:Int))) (2:Int)).toNat) (KI (d.ps.get x.piece.toNat) (onS x (0:Int)).toNat))])
abbrev QOv(d:Puz)(k:Int)(x:Lay):Nat×Blk:=(344,.cells 0 3 [vi (trK k (KI (d.ps.get (L.getD (i64.wrap ((c:Int)-1)).toNat (Lay.mk (0:Int) (0:Int))).piece.toNat) (onS (L.getD (i64.wrap ((c:Int)-1)).toNat (Lay.mk (0:Int) (0:Int))) (1:Int)).toNat) (KI (d.ps.get x.piece.toNat) (onS x (3:Int)).toNat))])
abbrev QT3(d:Puz)(k:Int)(x:Lay):Nat×Blk:=(344,.cells 0 3 [vi (trK k (KI (d.ps.get (L.getD (i64.wrap ((c:Int)-d.wide)).toNat (Lay.mk (0:Int) (0:Int))).piece.toNat) (onS (L.getD (i64.wrap ((c:Int)-d.wide)).toNat (Lay.mk (0:Int) (0:Int))) (2:Int)).toNat) (KI (d.ps.get x.piece.toNat) (onS x (0:Int)).toNat))])
theorem Qgg(R C:Int)(q:Nat->Bool)(A:Prop)(g:Nat->Value):exec (mkF prog (VS pb w)) (tuH prog pb w d D L k c x R C q A) (QI f5 0) (JSt.inst (W7 w d D L k c) g) (Q5 [] QOC) = .br (decide ((c:Int)<(L.length:Int))) (.need (decide ((0:Int)<=(c:Int)/\(c:Int)<(L.length:Int))&&decide (L.length<=L.length)) (.need (decide (c<L.length)) (.need (!decide (d.wide=0)) (.need (!decide (d.wide=0)) (.ak (([c<L.length,0=0,0=0,0=0,L.length=L.length,cO=cO,Fn.func (31:FuncId)=Fn.func (31:FuncId),0=0,0=0,0=0,0=0,0=0,0=0,0=0,L.length=L.length,cO=cO,(L.length:Int)=(L.length:Int)]++wbu c++[0=0,0=0,i64.wrap ((c:Int).tdiv d.wide)=R,(c:Int).tmod d.wide=C,(i64.wrap ((c:Int).tdiv d.wide)==0)=q 0,((c:Int).tmod d.wide==i64.wrap (d.wide-1))=q 1,(i64.wrap ((c:Int).tdiv d.wide)==i64.wrap (d.high-1))=q 2,((c:Int).tmod d.wide==0)=q 3,(0:Int)=0,(L.getD c (Lay.mk (0:Int) (0:Int))).piece=x.piece,(L.getD c (Lay.mk (0:Int) (0:Int))).turn=x.turn,k=k,0=0,w.n=w.n,cO=cO,Fn.func (30:FuncId)=Fn.func (30:FuncId),0=0,0=0,0=0,0=0])++waa d++(([cO=cO,D=D]++wbd L)++wad d++[w.n<=w.n,QB 1 w.n (λi=>QA.enc (w.get i)) λi=>QA.enc (w.get i)])) (.both (.asm (True) (.all (λ(g0:Nat->Value)=>.leaf (.tup [.nili,.ptr 149 0 0,.bool false true]) ([])))) (.asm (A) (.all (λ(g1:Nat->Value)=>.br (decide (C>0)) (.need (decide ((0:Int)<=i64.wrap ((c:Int)-1)/\i64.wrap ((c:Int)-1)<(L.length:Int))&&decide (L.length<=L.length)) (.need (decide ((i64.wrap ((c:Int)-1)).toNat<L.length)) (.need (decide (d.ps.n<=d.ps.n)&&(true&&(true&&true))&&decide ((0:Int)<=(L.getD (i64.wrap ((c:Int)-1)).toNat (Lay.mk (0:Int) (0:Int))).piece/\(L.getD (i64.wrap ((c:Int)-1)).toNat (Lay.mk (0:Int) (0:Int))).piece<(d.ps.n:Int)/\(0:Int)<=(L.getD (i64.wrap ((c:Int)-1)).toNat (Lay.mk (0:Int) (0:Int))).turn/\(L.getD (i64.wrap ((c:Int)-1)).toNat (Lay.mk (0:Int) (0:Int))).turn<4/\(0:Int)<=1/\(1:Int)<4)) (.need (decide (d.ps.n<=d.ps.n)&&(true&&(true&&true))&&decide ((0:Int)<=x.piece/\x.piece<(d.ps.n:Int)/\(0:Int)<=x.turn/\x.turn<4/\(0:Int)<=3/\(3:Int)<4)) (.need (Zz (k,KI (d.ps.get (L.getD (i64.wrap ((c:Int)-1)).toNat (Lay.mk (0:Int) (0:Int))).piece.toNat) (onS (L.getD (i64.wrap ((c:Int)-1)).toNat (Lay.mk (0:Int) (0:Int))) (1:Int)).toNat,KI (d.ps.get x.piece.toNat) (onS x (3:Int)).toNat)&&(decide (1<=w.n)&&pb (QJI w))) (.br (!trV w d.pK D k (KI (d.ps.get (L.getD (i64.wrap ((c:Int)-1)).toNat (Lay.mk (0:Int) (0:Int))).piece.toNat) (onS (L.getD (i64.wrap ((c:Int)-1)).toNat (Lay.mk (0:Int) (0:Int))) (1:Int)).toNat) (KI (d.ps.get x.piece.toNat) (onS x (3:Int)).toNat)) (.leaf (.tup (wb7)) ([])) (.br (decide (R>0)) (.need (decide ((0:Int)<=i64.wrap ((c:Int)-d.wide)/\i64.wrap ((c:Int)-d.wide)<(L.length:Int))&&decide (L.length<=L.length)) (.need (decide ((i64.wrap ((c:Int)-d.wide)).toNat<L.length)) (.need (decide (d.ps.n<=d.ps.n)&&(true&&(true&&true))&&decide ((0:Int)<=(L.getD (i64.wrap ((c:Int)-d.wide)).toNat (Lay.mk (0:Int) (0:Int))).piece/\(L.getD (i64.wrap ((c:Int)-d.wide)).toNat (Lay.mk (0:Int) (0:Int))).piece<(d.ps.n:Int)/\(0:Int)<=(L.getD (i64.wrap ((c:Int)-d.wide)).toNat (Lay.mk (0:Int) (0:Int))).turn/\(L.getD (i64.wrap ((c:Int)-d.wide)).toNat (Lay.mk (0:Int) (0:Int))).turn<4/\(0:Int)<=2/\(2:Int)<4)) (.need (decide (d.ps.n<=d.ps.n)&&(true&&(true&&true))&&decide ((0:Int)<=x.piece/\x.piece<(d.ps.n:Int)/\(0:Int)<=x.turn/\x.turn<4/\(0:Int)<=0/\(0:Int)<4)) (.need (Zz (trK k (KI (d.ps.get (L.getD (i64.wrap ((c:Int)-1)).toNat (Lay.mk (0:Int) (0:Int))).piece.toNat) (onS (L.getD (i64.wrap ((c:Int)-1)).toNat (Lay.mk (0:Int) (0:Int))) (1:Int)).toNat) (KI (d.ps.get x.piece.toNat) (onS x (3:Int)).toNat),KI (d.ps.get (L.getD (i64.wrap ((c:Int)-d.wide)).toNat (Lay.mk (0:Int) (0:Int))).piece.toNat) (onS (L.getD (i64.wrap ((c:Int)-d.wide)).toNat (Lay.mk (0:Int) (0:Int))) (2:Int)).toNat,KI (d.ps.get x.piece.toNat) (onS x (0:Int)).toNat)&&(decide (1<=w.n)&&pb (QJI w))) (.br (!trV w d.pK D (trK k (KI (d.ps.get (L.getD (i64.wrap ((c:Int)-1)).toNat (Lay.mk (0:Int) (0:Int))).piece.toNat) (onS (L.getD (i64.wrap ((c:Int)-1)).toNat (Lay.mk (0:Int) (0:Int))) (1:Int)).toNat) (KI (d.ps.get x.piece.toNat) (onS x (3:Int)).toNat)) (KI (d.ps.get (L.getD (i64.wrap ((c:Int)-d.wide)).toNat (Lay.mk (0:Int) (0:Int))).piece.toNat) (onS (L.getD (i64.wrap ((c:Int)-d.wide)).toNat (Lay.mk (0:Int) (0:Int))) (2:Int)).toNat) (KI (d.ps.get x.piece.toNat) (onS x (0:Int)).toNat)) (.leaf (.tup (wb7)) ([])) (.leaf (.tup (QGY L c)) ([(Wy d),(Wn L),Wc,(WW D),(WU d),(QPn L c d k x),(WR w),(W5 w)])))))))) (.leaf (.tup (QGY L c)) ([(Wy d),(Wn L),Wc,(WW D), (WU d),(QOv L c d k x),(WR w),(W5 w)]))))))))) (.br (decide (R>0)) (.need (decide ((0:Int)<=i64.wrap ((c:Int)-d.wide)/\i64.wrap ((c:Int)-d.wide)<(L.length:Int))&&decide (L.length<=L.length)) (.need (decide ((i64.wrap ((c:Int)-d.wide)).toNat<L.length)) (.need (decide (d.ps.n<=d.ps.n)&&(true&&(true&&true))&&decide ((0:Int)<=(L.getD (i64.wrap ((c:Int)-d.wide)).toNat (Lay.mk (0:Int) (0:Int))).piece/\(L.getD (i64.wrap ((c:Int)-d.wide)).toNat (Lay.mk (0:Int) (0:Int))).piece<(d.ps.n:Int)/\(0:Int)<=(L.getD (i64.wrap ((c:Int)-d.wide)).toNat (Lay.mk (0:Int) (0:Int))).turn/\(L.getD (i64.wrap ((c:Int)-d.wide)).toNat (Lay.mk (0:Int) (0:Int))).turn<4/\(0:Int)<=2/\(2:Int)<4)) (.need (decide (d.ps.n<=d.ps.n)&&(true&&(true&&true))&&decide ((0:Int)<=x.piece/\x.piece<(d.ps.n:Int)/\(0:Int)<=x.turn/\x.turn<4/\(0:Int)<=0/\(0:Int)<4)) (.need (Zz (k,KI (d.ps.get (L.getD (i64.wrap ((c:Int)-d.wide)).toNat (Lay.mk (0:Int) (0:Int))).piece.toNat) (onS (L.getD (i64.wrap ((c:Int)-d.wide)).toNat (Lay.mk (0:Int) (0:Int))) (2:Int)).toNat,KI (d.ps.get x.piece.toNat) (onS x (0:Int)).toNat)&&(decide (1<=w.n)&&pb (QJI w))) (.br (!trV w d.pK D k (KI (d.ps.get (L.getD (i64.wrap ((c:Int)-d.wide)).toNat (Lay.mk (0:Int) (0:Int))).piece.toNat) (onS (L.getD (i64.wrap ((c:Int)-d.wide)).toNat (Lay.mk (0:Int) (0:Int))) (2:Int)).toNat) (KI (d.ps.get x.piece.toNat) (onS x (0:Int)).toNat)) (.leaf (.tup (wb7)) ([])) (.leaf (.tup (QGY L c)) ([(Wy d),(Wn L),Wc,(WW D), (WU d),(QT3 L c d k x),(WR w),(W5 w)])))))))) (.leaf (.tup (QGY L c)) ([(Wy d),(Wn L),Wc,(WW D),(WU d),(344,.cells 0 3 [vi k]), (WR w),(W5 w)])))))))))))) (.leaf (.tup [.ptr 0 0 0,.ptr 149 0 0]) ([])):=by kernel_rfl
theorem QFx :QF 8 [AV.bool false true] ([]) (GP 696)=( some [true=true]):=by kernel_rfl
abbrev QEx:List AV:=(List.append (wbx L) ([vi (i64.wrap ((c:Int)+1))]))
theorem Qfs(k k':Int)(c c':Nat)(x:Lay):QF 8 (QEx L c) ([(Wy d),(Wn L),Wc,(WW D),(WU d),(QPn L c d k x),(WR w),(W5 w)]) (W7 w d D L k' c')=(some ((WQ L)++[i64.wrap ((c:Int)+1)=(c':Int),trK (trK k (KI (d.ps.get (L.getD (i64.wrap ((c:Int)-1)).toNat (Lay.mk (0:Int) (0:Int))).piece.toNat) (onS (L.getD (i64.wrap ((c:Int)-1)).toNat (Lay.mk (0:Int) (0:Int))) (1:Int)).toNat) (KI (d.ps.get x.piece.toNat) (onS x (3:Int)).toNat)) (KI (d.ps.get (L.getD (i64.wrap ((c:Int)-d.wide)).toNat (Lay.mk (0:Int) (0:Int))).piece.toNat) (onS (L.getD (i64.wrap ((c:Int)-d.wide)).toNat (Lay.mk (0:Int) (0:Int))) (2:Int)).toNat) (KI (d.ps.get x.piece.toNat) (onS x (0:Int)).toNat)=k',0=0,w.n=w.n]++(WJ D L d w))):=by kernel_rfl
theorem QeP(k k':Int)(c c':Nat)(x:Lay):QF 8 (QEx L c) ([(Wy d),(Wn L),Wc,(WW D),(WU d),(QOv L c d k x),(WR w),(W5 w)]) (W7 w d D L k' c')=(some ((WQ L)++[i64.wrap ((c:Int)+1)=(c':Int),trK k (KI (d.ps.get (L.getD (i64.wrap ((c:Int)-1)).toNat (Lay.mk (0:Int) (0:Int))).piece.toNat) (onS (L.getD (i64.wrap ((c:Int)-1)).toNat (Lay.mk (0:Int) (0:Int))) (1:Int)).toNat) (KI (d.ps.get x.piece.toNat) (onS x (3:Int)).toNat)=k',0=0,w.n=w.n]++(WJ D L d w))):=by kernel_rfl
theorem Qgn(k k':Int)(c c':Nat)(x:Lay):QF 8 (QEx L c) ([(Wy d),(Wn L),Wc,(WW D),(WU d),(QT3 L c d k x),(WR w),(W5 w)]) (W7 w d D L k' c')=(some ((WQ L)++[i64.wrap ((c:Int)+1)=(c':Int),trK k (KI (d.ps.get (L.getD (i64.wrap ((c:Int)-d.wide)).toNat (Lay.mk (0:Int) (0:Int))).piece.toNat) (onS (L.getD (i64.wrap ((c:Int)-d.wide)).toNat (Lay.mk (0:Int) (0:Int))) (2:Int)).toNat) (KI (d.ps.get x.piece.toNat) (onS x (0:Int)).toNat)=k',0=0,w.n=w.n]++(WJ D L d w))):=by kernel_rfl
theorem QlO(k k':Int)(c c':Nat)(x:Lay):QF 8 (QEx L c) ([(Wy d),(Wn L),Wc,(WW D),(WU d),(344,.cells 0 3 [vi k]),(WR w),(W5 w)]) (W7 w d D L k' c')=(some ((WQ L) ++ [i64.wrap ((c:Int)+1)=(c':Int),k=k',0=0,w.n=w.n]++(WJ D L d w))):=by kernel_rfl
theorem QYX :QF 8 [] ([]) QI8=( some []):=by kernel_rfl
end Go.Proofs.YtekbmehgcofnkaaGreat
namespace Go.SX
open Go Go.RowKit Go.Proofs.YtekbmehgcofnkaaGreat
structure RkL where
 n:Nat
 get:Nat->Lay
def RkL.rw(x:RkL):Rw Lay:=⟨x.n,x.get⟩
def lyK:List CK:=[.int .i64,.int .i64]
variable {n:Nat}
theorem QjB{m:Nat}(h:m<=n)(get:Nat->List AV):(Q9 n get).flatten=(Q9 m get).flatten++((Q9 n get).drop m).flatten:=by
 have:Q9 m get=(Q9 n get).take m:=by
  unfold Q9;rw[<-List.map_take,List.take_range,Nat.min_eq_left h]
 rw[this,<-List.flatten_append,List.take_append_drop]
theorem QdS{r r':Nat->Loc}{id k:Nat}(hr:r' k=r id){w:World}{o:Bool}{ty:TypeId}{ks:List CK}{m:Nat}{g g':Nat->Nat->Int}(h:QN r id w (.rowz o ty ks n g))(hm:m<=n)(hg:∀ i,QY ks g' i=QY ks g i):QN r' k w (.rowz false ty ks m g'):=by
 have h:Kl r id w ty ks.length n (QY ks g):=h;show Kl r' k w ty ks.length m (QY ks g');have e:QY ks g'=QY ks g:=funext hg;rw[e];obtain⟨h1,h2,h3,h4,h5,h6⟩:=h;unfold Kl;rw[hr];refine⟨h1,h2,h3,λhn=>by have:=h4 hn;omega,λi hi=>h5 i (by omega),λhn=>?_⟩
 obtain⟨h7,rest,h8,h9⟩:=h6 hn;refine⟨by omega,AV.denL r ((Q9 n (QY ks g)).drop m).flatten++rest,?_,?_⟩
 .have hl:=Y0 ks.length ((Q9 n (QY ks g)).drop m) λx hx=>by
   obtain⟨i,hi,rfl⟩:=Wi (List.mem_of_mem_drop hx);exact(h5 i hi).1
  rw[List.length_append,Kf,hl,List.length_drop,JV];have:(r id).cap-m=(n-m)+((r id).cap-n):=by omega
  rw[this,Nat.add_mul];omega
 .rw[h9,QjB hm,qY,List.append_assoc,denL_congr (p:=λ_=>false) (r:=r) (r':=r') (λ_ hf=>by cases hf) (Q9 m (QY ks g)).flatten (GR λi hi=>Xu (h5 i (by omega)).2)]
instance : Qg RkL where
  val k x := .slz k 0 x.n (.of 0)
  blk k x := [(k,.rowz false 49 lyK x.n λi=>QA.enc (x.get i))]
  dec v lk := match v with
    | .slz id 0 m (.of 0) => (match lk id with
      | some (.rowz _ ty ks n g) => (match Nat.beq ty 49 && ksB ks lyK with
        | true => some (decide (m <= n),⟨m,λi=>QA.dec (g i)⟩)
        | false => none)
      | _ => none)
    | _ => none
  ok v lk p x h hp := by
    split at h <;> (try (cases h; done))
    split at h <;> (try (cases h; done))
    rename_i id m _ o ty ks n g hlk;split at h <;> (try (cases h; done))
    rename_i hk;rw[qbA]at hk;have e1 := qnb hk.1;have e2 := Yb hk.2;subst e1 e2;simp only[qsI,qpI]at h;obtain⟨rfl,rfl⟩ := h;refine⟨λk=>⟨by simp[AV.all],λq hq=>?_⟩,λr w hb=>?_⟩
    . simp only[List.mem_singleton]at hq; subst hq; exact⟨rfl,rfl,rfl⟩
    . refine⟨r id,λk r' hr=>⟨?_,λq hq=>?_⟩⟩
      . simp only[AV.den,hr]
      . simp only[List.mem_singleton]at hq; subst hq
        exact QdS hr (hb _ _ hlk) (qdt hp) λi=>QA.ok (α := Lay) (g i)
end Go.SX
namespace Go.Proofs.YtekbmehgcofnkaaGreat
open Go.SX Go.SX.Told
open Go Go.SX Go.SX.Told
theorem QSL{p q:Nat->Bool}:∀{m k:Nat},(∀ i,k<=i->i<k+m->p i=q i)->QR p m k=QR q m k
 | 0,_,_=>rfl
 | m+1,k,h=>by
  simp only[QR];rw[h k (qlr _) (by omega),QSL (m:=m) (k:=k+1) λi h1 h2=>h i (by omega) (by omega)]
variable {n i:Nat}{a b:Edge}{m:Int}{p:Qx}(w:Rw QU)(d:Puz)(D:Int)(L:List Lay)(k:Int)(c:Nat)(x:Lay)
theorem QaG{d:Puz}(hd:Kb d)(hn:n<=1000)(x:Lay):(QR (Xb d x (rmW d n)) 4 0).isNone=ZP d n x:=by
 have h1:=hd.w1;have h2:=hd.wn;have h3:=hd.n;have h4:=hd.h1;have h5:=hd.hn;have hr:=QBi hd n;unfold Qs at hr;have wr:i64.wrap ((n:Int).tdiv d.wide)=(n:Int).tdiv d.wide:=w64 (by omega) (by omega)
 have ww:i64.wrap (d.wide-1)=d.wide-1:=w64 (by omega) (by omega)
 have wh:i64.wrap (d.high-1)=d.high-1:=w64 (by omega) (by omega)
 unfold ZP;rw[QSL];intro i _ hi;unfold Xb Kz Kp;congr 1
 match i,hi with
 | 0,_=>show(i64.wrap ((n:Int).tdiv d.wide)==0)=_;rw[wr];rfl
 | 1,_=>show((n:Int).tmod d.wide==i64.wrap (d.wide-1))=_;rw[ww];rfl
 | 2,_=>show(i64.wrap ((n:Int).tdiv d.wide)==i64.wrap (d.high-1))=_;rw[wr,wh];rfl
 | 3,_=>rfl
 | i+4,hi=>omega
theorem QNM{d:Puz}{p q:Lay}(hp:KJ d p)(hq:KJ d q)(hne:p.piece≠q.piece){s t:Int}(hs:0<=s)(ht:0<=t):Z5 (QH d) p q s t=(JN d.pK (sdR d p s) (sdR d q t)).1:=by
 have h1:=QSJ hp hs;have h2:=QSJ hq ht;unfold Z5;rw[QB1,if_pos ⟨hp.p.1,hp.p.2,h1.1,h1.2,hq.p.1,hq.p.2,h2.1,h2.2,hne⟩];rfl
theorem Qjp{d:Puz}{x:Lay}(h:KJ d x):Y2 d x:=⟨h.p,by have:=h.t;omega⟩
theorem zq{d:Puz}(h:d.ok=true){p:Nat}(hp:p<d.ps.n):(KI (d.ps.get p) i).ok=true/\d.pK.ok=true:=by
 rw[Puz.ok,qbA]at h;have hn:QR (XB d) d.ps.n 0=none:=by simpa using h.2
 have hb:=vv hn p (Nat.zero_le _) (by omega)
 simp only[XB,Bool.not_eq_false',qbA,Qb.ok]at hb;refine⟨?_,hb.1⟩;unfold KI;split
 .exact hb.2.1
 .exact hb.2.2.1
 .exact hb.2.2.2.1
 .exact hb.2.2.2.2
theorem Qk2(z:Int):0<=IntKind.u16.wrap z/\IntKind.u16.wrap z<65536:=by
 unfold IntKind.wrap;constructor<;>simp[IntKind.bits,IntKind.signed]<;>omega
theorem zF{s:Sp}(h:0<=s.lo/\s.lo<=s.hi/\s.hi<=10000):s.lo<=pkV w k s/\pkV w k s<=s.hi:=by
 have hu:=Qk2 ((w.get ((i64.wrap (k+1)).tmod (w.n:Int)).toNat).n+IntKind.u16.wrap (i64.wrap (k+1)));have e1:i64.wrap (s.hi-s.lo)=s.hi-s.lo:=w64 (by omega) (by omega)
 have e2:i64.wrap (s.hi-s.lo+1)=s.hi-s.lo+1:=w64 (by omega) (by omega)
 unfold pkV;rw[e1,e2];generalize IntKind.u16.wrap ((w.get ((i64.wrap (k+1)).tmod (w.n:Int)).toNat).n+IntKind.u16.wrap (i64.wrap (k+1)))=u at hu ⊢;rw[w64 (n:=u) (by omega) (by omega)]
 have h1:0<=u.tmod (s.hi-s.lo+1):=Int.tmod_nonneg _ (by omega)
 have h2:u.tmod (s.hi-s.lo+1)<s.hi-s.lo+1:=Int.tmod_lt_of_pos _ (by omega)
 rw[w64 (by omega) (by omega)]
 omega
theorem QT5{k:Int}(h0:0<=k)(h1:k<=100000):∀ i:Nat,i<=6->nk k i=k+i
 | 0,_=>by simp[nk]
 | i+1,hi=>by
  rw[nk,QT5 h0 h1 i (by omega),w64 (by omega) (by omega)];omega
theorem QKq{k:Int}(h0:0<=k)(h1:k<=100000)(a b:Edge):k<=trK k a b/\trK k a b<=k+6:=by
 unfold trK;rw[QT5 h0 h1 6 (qlr _)];cases (Qd a b).2.2
 .show k<=k/\k<=k+6;omega
 .show k<=k+((6:Nat):Int)/\k+((6:Nat):Int)<=k+6;omega
theorem QQ2(h:(Qd a b).2.2=true):(a.kind=1/\b.kind=2/\Qd a b=(a,b,true))∨(b.kind=1/\a.kind=2/\Qd a b=(b,a,true)):=by
 unfold Qd at h ⊢
 cases h1:a.kind==1<;>cases h2:b.kind==2<;>cases h3:b.kind==1<;>cases h4:a.kind==2<;>rw[h1,h2,h3,h4]at h<;>simp only[cond_true,cond_false]at h ⊢<;>first
  | exact .inl ⟨beq_iff_eq.1 h1,beq_iff_eq.1 h2,trivial⟩
  | exact .inr ⟨beq_iff_eq.1 h3,beq_iff_eq.1 h4,trivial⟩
  | (cases h;done)
  | (rw[beq_iff_eq]at h1 h3 h4;omega)
theorem QJF{n a dl hi lo:Int}(hd:0<=dl)(hm:dl<=m)(ha:a=1000+m)(hh:0<=hi)(hl:lo<=0)(h1:n*a<=hi)(h2:lo<=n*a):lo<=n*(1000+dl)/\n*(1000+dl)<=hi:=by
 subst ha;rcases(show 0<=n∨n<=0 by omega)with h|h
 .have k1:=Int.mul_le_mul_of_nonneg_left (show 1000+dl<=1000+m by omega) h
  have k2:=Int.mul_nonneg h (show 0<=1000+dl by omega)
  omega
 .have h':0 <= -n:=by omega
  have k1:=Int.mul_le_mul_of_nonneg_left (show 1000+dl<=1000+m by omega) h'
  have k2:=Int.mul_nonneg h' (show 0<=1000+dl by omega)
  rw[Int.neg_mul,Int.neg_mul]at k1;rw[Int.neg_mul]at k2;omega
theorem QjW{t h:Edge}(h0:may p t h 0=true)(h1:may p t h 1=true)(h2:may p t h 2=true):ZT p t h≠0:=by
 rw[QEB,h0,h1,h2]
 by_cases q:(alw p t h 0&&(alw p t h 1&&alw p t h 2))=true
 .rw[if_pos q];decide
 .rw[if_neg q,if_pos (show(true&&(true&&true))=true from rfl)];decide
theorem QJb{e:Edge}(h:e.ok=true)(hk:e.kind≠0):(0<=e.at_.lo/\e.at_.lo<=e.at_.hi/\e.at_.hi<=10000)/\(1<=e.wide.lo/\e.wide.lo<=e.wide.hi/\e.wide.hi<=3000)/\(1<=e.deep.lo/\e.deep.lo<=e.deep.hi/\e.deep.hi<=3000):=by
 rcases Edge.ok_iff.1 h with q|q
 .exact absurd q hk
 .exact q.2
theorem QVV{t h:Edge}{D:Int}(hp:p.ok=true)(ht:t.ok=true)(hh:h.ok=true)(kt:t.kind≠0)(kh:h.kind≠0)(hm:p.dK.lo<=m/\m<=p.dK.hi)(hD:D=1000+m)(hv:Zv p D (XA w p k t h) (YR w k t h) (qA w k t h)=true):ZT p t h≠0:=by
 obtain⟨⟨l1,l2⟩,⟨s1,s2⟩,⟨o1,o2⟩,d1,d2,d3⟩:=Qx.ok_iff.1 hp;obtain⟨ta,tw,td⟩:=QJb ht kt;obtain⟨ha,hw,hd⟩:=QJb hh kh;have a0:=zF w (nk k 0) (s:=t.at_) ⟨by omega,by omega,by omega⟩
 have a1:=zF w (nk k 1) (s:=h.at_) ⟨by omega,by omega,by omega⟩
 have a2:=zF w (nk k 2) (s:=h.wide) ⟨by omega,by omega,by omega⟩
 have a3:=zF w (nk k 3) (s:=t.wide) ⟨by omega,by omega,by omega⟩
 have a4:=zF w (nk k 4) (s:=h.deep) ⟨by omega,by omega,by omega⟩
 have a5:=zF w (nk k 5) (s:=t.deep) ⟨by omega,by omega,by omega⟩
 have eo:XA w p k t h=pkV w (nk k 0) t.at_+pkV w (nk k 1) h.at_-p.length:=by
  unfold XA;rw[w64 (n:=pkV w (nk k 0) t.at_+pkV w (nk k 1) h.at_) (by omega) (by omega),w64 (by omega) (by omega)]
 have ew:YR w k t h=pkV w (nk k 2) h.wide-pkV w (nk k 3) t.wide:=by unfold YR;exact w64 (by omega) (by omega)
 have ed:qA w k t h=pkV w (nk k 4) h.deep-pkV w (nk k 5) t.deep:=by unfold qA;exact w64 (by omega) (by omega)
 generalize pkV w (nk k 0) t.at_=x0 at *
 generalize pkV w (nk k 1) h.at_=x1 at *
 generalize pkV w (nk k 2) h.wide=x2 at *;generalize pkV w (nk k 3) t.wide=x3 at *;generalize pkV w (nk k 4) h.deep=x4 at *;generalize pkV w (nk k 5) t.deep=x5 at *;rw[eo,ew,ed]at hv;have hD2:1000<=D/\D<=1100:=by omega
 have m0:=H3 (a:=x0+x1-p.length) (m:=D) (by omega) (by omega) hD2.1 hD2.2
 have m1:=H3 (a:=x2-x3) (m:=D) (by omega) (by omega) hD2.1 hD2.2
 have m2:=H3 (a:=x4-x5) (m:=D) (by omega) (by omega) hD2.1 hD2.2
 unfold Zv at hv;rw[w64 (n:=(x0+x1-p.length)*D) (by omega) (by omega),w64 (n:=(x2-x3)*D) (by omega) (by omega),w64 (n:=(x4-x5)*D) (by omega) (by omega),w64 (n:=1000*p.aK) (by omega) (by omega),w64 (n := -1000*p.aK) (by omega) (by omega),w64 (n:=1000*p.oK) (by omega) (by omega)]at hv
 obtain⟨v1,v2,v3,v4,v5,v6⟩:((x0+x1-p.length)*D<=1000*p.aK)/\((x0+x1-p.length)*D ≥ -1000*p.aK)/\(x2-x3≥0)/\((x2-x3)*D<=1000*p.oK)/\(x4-x5≥0)/\(x4-x5)*D<=1000*p.oK:=by
  revert hv
  simp only[Bool.cond_decide,cond_eq_ite,Bool.if_false_right,qbA,qdE];exact λq=>⟨q.1,q.2.1,q.2.2.1,q.2.2.2.1,q.2.2.2.2.1,q.2.2.2.2.2⟩
 have p1:0<=(x2-x3)*D:=Int.mul_nonneg v3 (by omega)
 have p2:0<=(x4-x5)*D:=Int.mul_nonneg v5 (by omega)
 obtain⟨g1,g2⟩:=QJF (lo := -1000*p.aK) d1 hm.1 hD (show 0<=1000*p.aK by omega) (by omega) v1 (by omega)
 obtain⟨g3,g4⟩:=QJF (lo:=0) d1 hm.1 hD (show 0<=1000*p.oK by omega) (Int.le_refl _) v4 p1
 obtain⟨g5,g6⟩:=QJF (lo:=0) d1 hm.1 hD (show 0<=1000*p.oK by omega) (Int.le_refl _) v6 p2
 refine QjW ?_ ?_ ?_
 .refine QEh (n:=x0+x1-p.length) (by omega) (by omega) d1 ?_ ?_ (by omega) g2
  .show t.at_.lo+h.at_.lo + -p.length<=_;omega
  .show _<=t.at_.hi+h.at_.hi + -p.length;omega
 .refine QEh (n:=x2-x3) (Int.le_refl _) (by omega) d1 ?_ ?_ (by omega) g4
  .show h.wide.lo-t.wide.hi<=_;omega
  .show _<=h.wide.hi-t.wide.lo;omega
 .refine QEh (n:=x4-x5) (Int.le_refl _) (by omega) d1 ?_ ?_ (by omega) g6
  .show h.deep.lo-t.deep.hi<=_;omega
  .show _<=h.deep.hi-t.deep.lo;omega
theorem QU5{w:Rw QU}{k D:Int}(hp:p.ok=true)(ha:a.ok=true)(hb:b.ok=true)(hm:p.dK.lo<=m/\m<=p.dK.hi)(hD:D=1000+m)(h:trV w p D k a b=true):(JN p a b).1≠0:=by
 unfold trV at h;cases hi:(Qd a b).2.2 with
 | false=>rw[hi]at h;cases h
 | true=>
  rw[hi,cond_true]at h;unfold JN;rw[if_pos ⟨hp,ha,hb⟩];show Y7 p a b≠0;unfold Y7;rcases QQ2 hi with ⟨k1,k2,e⟩|⟨k1,k2,e⟩
  .rw[e]at h;rw[if_neg (by omega),if_pos ⟨k1,k2⟩]
   exact QVV w k hp ha hb (by omega) (by omega) hm hD h
  .rw[e]at h;rw[if_pos k2,if_pos k1];exact QVV w k hp hb ha (by omega) (by omega) hm hD h
theorem Qao{k:Int}(ha:a.ok=true)(hb:b.ok=true)(h0:0<=k)(h1:k<=90000):Zz (k,a,b)=true:=by
 have sp:∀{s:Sp},0<=s.lo/\s.lo<=s.hi/\s.hi<=10000->H4 s=true:=λ{s} h=>by
  unfold H4;rw[w64 (n:=s.hi-s.lo) (by omega) (by omega),w64 (by omega) (by omega)]
  exact qde (by omega)
 have ed:∀{e:Edge},e.ok=true->e.kind≠0->Y3 e=true:=λ{e} h hk=>by
  obtain⟨q1,q2,q3⟩:=QJb h hk;unfold Y3;rw[sp q1,sp ⟨by omega,by omega,by omega⟩,sp ⟨by omega,by omega,by omega⟩];rfl
 unfold Zz;rw[qbA,qdE,qbO];refine⟨⟨h0,h1⟩,?_⟩;cases hi:(Qd a b).2.2 with
 | false=>exact .inl rfl
 | true=>
  refine .inr ?_;rcases QQ2 hi with ⟨k1,k2,_⟩|⟨k1,k2,_⟩
  .show(Y3 a&&Y3 b)=true;rw[ed ha (by omega),ed hb (by omega)];rfl
  .show(Y3 a&&Y3 b)=true;rw[ed ha (by omega),ed hb (by omega)];rfl
def tuX:Lay:=L.getD c ⟨0,0⟩
def tuL:Lay:=L.getD (i64.wrap ((c:Int)-1)).toNat ⟨0,0⟩
def tuU:Lay:=L.getD (i64.wrap ((c:Int)-d.wide)).toNat ⟨0,0⟩
def tuC:Bool:=decide ((c:Int).tmod d.wide>0)
def tuR:Bool:=decide (i64.wrap ((c:Int).tdiv d.wide)>0)
def H6:Bool := !tuC d c||trV w d.pK D k (sdR d (tuL L c) 1) (sdR d (tuX L c) 3)
def VT:Int:=cond (tuC d c) (trK k (sdR d (tuL L c) 1) (sdR d (tuX L c) 3)) k
def QAQ:Bool := !tuR d c||trV w d.pK D k (sdR d (tuU d L c) 2) (sdR d (tuX L c) 0)
def YM:Int:=cond (tuR d c) (trK k (sdR d (tuU d L c) 2) (sdR d (tuX L c) 0)) k
def WL:Bool:=(QR (Xb d (tuX L c) (rmW d c)) 4 0).isNone
def XO:Bool:=WL d L c&&(H6 w d D L k c&&QAQ w d D L (VT d L k c) c)
def tuN(d:Puz)(L:List Lay):Nat->Int
 | 0=>1
 | c+1=>YM d L (VT d L (tuN d L c) c) c
theorem QcT{k:Int}(h0:0<=k)(h1:k<=100000)(c:Nat):k<=VT d L k c/\VT d L k c<=k+6:=by
 unfold VT;cases tuC d c
 .show k<=k/\k<=k+6;omega
 .exact QKq h0 h1 _ _
theorem QYw{k:Int}(h0:0<=k)(h1:k<=100000)(c:Nat):k<=YM d L k c/\YM d L k c<=k+6:=by
 unfold YM;cases tuR d c
 .show k<=k/\k<=k+6;omega
 .exact QKq h0 h1 _ _
theorem QV8(d:Puz)(L:List Lay):∀ c:Nat,c<=1000->0<=tuN d L c/\tuN d L c<=1+12*c
 | 0,_=>by show(0:Int)<=1/\(1:Int)<=1+12*((0:Nat):Int);omega
 | c+1,hc=>by
  have h:=QV8 d L c (by omega)
  have h1:=QcT d L (k:=tuN d L c) h.1 (by omega) c
  have h2:=QYw d L (k:=VT d L (tuN d L c) c) (by omega) (by omega) c
  rw[tuN];omega
theorem QJR(d:Puz)(w:Rw QU){i:Nat}:∀{n:Nat},i<=n->(otL d w n).take i=otL d w i
 | 0,h=>by
  obtain rfl:i=0:=by omega
  rfl
 | n+1,h=>by
  by_cases q:i=n+1
  .subst q;exact List.take_of_length_le (by rw[XM];exact qlr _)
  .rw[otL,List.take_append_of_le_length (by rw[XM];omega)]
   exact QJR d w (by omega)
theorem QGQ(w:Rw QU)(h:i<n):(otL d w n)[i]'(by rw[XM];exact h)=otX d w (otL d w i) i:=by
 have h1:i<(otL d w n).length:=by rw[XM];exact h
 have h2:i<((otL d w n).take (i+1)).length:=by rw[List.length_take];omega
 have e:(otL d w n)[i]=((otL d w n).take (i+1))[i]:=(List.getElem_take ..).symm;rw[e];have e2:(otL d w n).take (i+1)=otL d w i++[otX d w (otL d w i) i]:=QJR d w (by omega)
 simp only[e2];rw[List.getElem_append_right (by rw[XM];exact qlr _)]
 simp[XM]
theorem QJq{d:Puz}{w:Rw QU}(hw:ZB w)(hi:i<d.ps.n):otX d w (otL d w i) i∈zl d/\YK (otL d w i) (otX d w (otL d w i) i)=false:=by
 obtain⟨⟨h1,h2⟩,h3⟩:=QIQ hw (show 0<d.ps.n by omega) (otL d w i) i
 have hf:Q6 (otL d w i) (otK d w (otL d w i) i)=false:=QPg (by omega) (QQZ (by rw[XM];exact hi) (by omega))
 refine⟨?_,hf⟩;have hv:=hw.at_ i
 have hq:0<=((wAt w i).fdiv 256).tmod 4/\((wAt w i).fdiv 256).tmod 4<4:=by
  have:0<=(wAt w i).fdiv 256:=Int.fdiv_nonneg hv.1 (by decide)
  exact⟨Int.tmod_nonneg _ this,Int.tmod_lt_of_pos _ (by decide)⟩
 refine vP.2 ⟨otK d w (otL d w i) i,(otX d w (otL d w i) i).turn.toNat,h3,?_,?_⟩
 .unfold Qe tnV otX;cases d.turn with
  | false=>show(0:Int).toNat<(cond (false&&_) (4:Int) 1).toNat;rw[Bool.false_and];decide
  | true=>
   cases hz:decide ((otK d w (otL d w i) i:Int)>0)with
   | false=>simp only[hz,cond_false,cond_true];show(0:Int).toNat<_;cases hy:(true&&decide (0<(otK d w (otL d w i) i:Int)))<;>decide
   | true=>
    have hy:decide (0<(otK d w (otL d w i) i:Int))=true:=hz;simp only[hz,hy,Bool.and_self,cond_true];show _<4;omega
 .show(⟨_,_⟩:Lay)=⟨_,_⟩;congr 1;unfold otX;cases d.turn
  .rfl
  .cases decide ((otK d w (otL d w i) i:Int)>0)
   .rfl
   .show((wAt w i).fdiv 256).tmod 4=((((wAt w i).fdiv 256).tmod 4).toNat:Int);omega
theorem QhZ{d:Puz}{w:Rw QU}(ho:d.ok=true)(hw:ZB w){D:Int}(hm:d.pK.dK.lo<=m/\m<=d.pK.dK.hi)(hD:D=1000+m)(h:∀ c,c<d.ps.n->XO w d D (otL d w d.ps.n) (tuN d (otL d w d.ps.n) c) c=true):otL d w d.ps.n∈Q7 d (QH d):=by
 obtain⟨hd,hpos,h9⟩:=JW (JU ho);have hn:=hd.n;have h1:=hd.w1;have h2:=hd.wn;have hlen:=XM d w d.ps.n;refine Vr.2 ⟨hlen,λi hi=>?_⟩;have hi':i<d.ps.n:=by omega
 have hg:=QGQ d w hi';have ht:=QJR d w (n:=d.ps.n) (i:=i) (by omega)
 obtain⟨l1,l2⟩:=QJq hw hi';rw[hg,ht];refine⟨l1,l2,?_⟩;have hok:=h i hi';unfold XO at hok;rw[qbA,qbA]at hok;obtain⟨o1,o2,o3⟩:=hok
 have hX:tuX (otL d w d.ps.n) i=otX d w (otL d w i) i:=by
  unfold tuX;rw[Jb hi,hg]
 have hbx:=QDI l1
 have hlay:∀ j:Nat,j<i->KJ d ((otL d w d.ps.n).getD j ⟨0,0⟩:Lay)/\atL (otL d w i) j=((otL d w d.ps.n).getD j ⟨0,0⟩:Lay)/\((otL d w d.ps.n).getD j ⟨0,0⟩:Lay).piece≠(otX d w (otL d w i) i).piece:=by
  intro j hj;have hjl:j<(otL d w d.ps.n).length:=by omega
  have hji:j<(otL d w i).length:=by rw[XM];exact hj
  have eg:=QGQ d w (show j<d.ps.n by omega)
  have e1:(otL d w i)[j]=otX d w (otL d w j) j:=QGQ d w hj;rw[Jb hjl,eg];refine⟨QDI (QJq hw (by omega)).1,?_,λe=>?_⟩
  .unfold atL;rw[Jb (by omega)];exact e1
  .have:=List.any_eq_false.1 l2 (otL d w i)[j] (List.getElem_mem hji);rw[e1]at this;exact this (beq_iff_eq.2 e)
 have hokS:∀{x:Lay} {s:Int},KJ d x->0<=s->(sdR d x s).ok=true/\d.pK.ok=true:=λ{x s} hx hs=>zq ho (by have:=hx.p;omega)
 have hplay:=(zq ho (p:=0) (i:=0) hpos).2;have hr:=QBi hd i;unfold Qs at hr;have wr:i64.wrap ((i:Int).tdiv d.wide)=(i:Int).tdiv d.wide:=w64 (by omega) (by omega)
 have wu:i64.wrap ((i:Int)-d.wide)=(i:Int)-d.wide:=w64 (by omega) (by omega)
 have wl:i64.wrap ((i:Int)-1)=(i:Int)-1:=w64 (by omega) (by omega)
 unfold KA;rw[XM,<-QaG hd (show i<=1000 by omega)]
 unfold WL at o1;rw[hX]at o1;rw[o1,Bool.true_and,qbA];constructor
 .unfold QAQ tuR at o3;rw[wr,hX]at o3;show(!decide (0<(i:Int).tdiv d.wide)||_)=true
  cases hrow:decide (0<(i:Int).tdiv d.wide)with
  | false=>rfl
  | true=>
   have hp:=QCH hd (qdt hrow);rw[show decide ((i:Int).tdiv d.wide>0)=true from hrow,Bool.not_true,Bool.false_or]at o3;unfold tuU at o3;rw[wu]at o3;obtain⟨q1,q2,q3⟩:=hlay ((i:Int)-d.wide).toNat (by omega)
   rw[Int.toNat_of_nonneg (by omega)]at q2
   rw[q2,QNM q1 hbx q3 (by decide) (by decide),Bool.not_true,Bool.false_or,Bool.not_eq_true',beq_eq_false_iff_ne]
   exact QU5 hplay (hokS q1 (by decide)).1 (hokS hbx (by decide)).1 hm hD o3
 .unfold H6 tuC at o2;rw[hX]at o2;show((i:Int).tmod d.wide==0||_)=true
  cases hcol:(i:Int).tmod d.wide==0 with
  | true=>rfl
  | false=>
   have hp:=QBU (d:=d) (c:=i) hcol
   have hc0:(i:Int).tmod d.wide>0:=by
    have:=beq_eq_false_iff_ne.1 hcol;have:0<=(i:Int).tmod d.wide:=Int.tmod_nonneg _ (by omega)
    omega
   rw[qde hc0,Bool.not_true,Bool.false_or]at o2;unfold tuL at o2;rw[wl]at o2;obtain⟨q1,q2,q3⟩:=hlay ((i:Int)-1).toNat (by omega)
   rw[Int.toNat_of_nonneg (by omega)]at q2
   rw[q2,QNM q1 hbx q3 (by decide) (by decide),Bool.false_or,bne_iff_ne]
   exact QU5 hplay (hokS q1 (by decide)).1 (hokS hbx (by decide)).1 hm hD o2
theorem QCz:Qf (VS QK w):=Qbr.add (QhE w)
theorem QEs{b:Bool}(h:(!b)=false):b=true:=by cases b<;>simp_all
def QFW(R C:Int)(q:Nat->Bool)(j:Nat)(e:Ex)(J:JSt):Prop:=(e = .ret/\J=GP 904)∨(e = .exit 2/\(QR (Xb d x q) (4-j) j).isNone=true/\J=QK8 w d D L k c x R C)
theorem qq(R C:Int)(q:Nat->Bool){j:Nat}(hj:j<4)(h:Xb d x q j=false){e:Ex}{J:JSt}(r:QFW w d D L k c x R C q (j+1) e J):QFW w d D L k c x R C q j e J:=by
 have hf:=VC (p:=Xb d x q) hj;unfold QFW at r ⊢;rw[hf.2 h];exact r
theorem QjQ(R C:Int)(q:Nat->Bool)(hx:Y2 d x):VH (YL w d D L k c x R C q) (λj=>j<=4) (λj=>4-j) (QFW w d D L k c x R C q) 8 QAe [] (mkF prog (VS QK w)) (λ_=>hnd (mkF prog (VS QK w)) 0) (QW (QI f5 0)):=by
 have h1:=hx.p;have h2:=hx.t;refine⟨λj g hj=>?_⟩
 match j,hj with
 | 0,_=>
  have et:=Qa1 QK w d D L k c x R C q g;refine Qh et ?_;clear et;refine QE (λb=>QG (by simp;omega) (QE (λb1=>?_) (λb1=>?_))) (λb=>?_)
  .exact⟨_,.inl ⟨rfl,rfl⟩,rfl,rfl,_,QFH,⟨rfl,trivial⟩⟩
  .refine⟨1,by decide,by decide,λe J r=>qq _ _ _ _ _ _ _ _ _ _ (by decide) (by unfold Xb;rw[b];exact b1) r,rfl,rfl,_,QSc w d D L k c x R C q,?_⟩
   repeat' first|with_reducible refine QM ?_ ?_|exact tv|with_reducible exact qRr|exact rfl|refine aI ?_ ?_
  .refine⟨1,by decide,by decide,λe J r=>qq _ _ _ _ _ _ _ _ _ _ (by decide) (by unfold Xb;rw[b];rfl) r,rfl,rfl,_,QSc w d D L k c x R C q,?_⟩
   repeat' first|with_reducible refine QM ?_ ?_|exact tv|with_reducible exact qRr|exact rfl|refine aI ?_ ?_
 | 1,_=>
  have et:=Qir QK w d D L k c x R C q g;refine Qh et ?_;clear et;refine QE (λb=>QG (by simp;omega) (QE (λb1=>?_) (λb1=>?_))) (λb=>?_)
  .exact⟨_,.inl ⟨rfl,rfl⟩,rfl,rfl,_,QFH,⟨rfl,trivial⟩⟩
  .refine⟨2,by decide,by decide,λe J r=>qq _ _ _ _ _ _ _ _ _ _ (by decide) (by unfold Xb;rw[b];exact b1) r,rfl,rfl,_,QPl w d D L k c x R C q,?_⟩
   repeat' first|with_reducible refine QM ?_ ?_|exact tv|with_reducible exact qRr|exact rfl|refine aI ?_ ?_
  .refine⟨2,by decide,by decide,λe J r=>qq _ _ _ _ _ _ _ _ _ _ (by decide) (by unfold Xb;rw[b];rfl) r,rfl,rfl,_,QPl w d D L k c x R C q,?_⟩
   repeat' first|with_reducible refine QM ?_ ?_|exact tv|with_reducible exact qRr|exact rfl|refine aI ?_ ?_
 | 2,_=>
  have et:=QlH QK w d D L k c x R C q g;refine Qh et ?_;clear et;refine QE (λb=>QG (by simp;omega) (QE (λb1=>?_) (λb1=>?_))) (λb=>?_)
  .exact⟨_,.inl ⟨rfl,rfl⟩,rfl,rfl,_,QFH,⟨rfl,trivial⟩⟩
  .refine⟨3,by decide,by decide,λe J r=>qq _ _ _ _ _ _ _ _ _ _ (by decide) (by unfold Xb;rw[b];exact b1) r,rfl,rfl,_,QTO w d D L k c x R C q,?_⟩
   repeat' first|with_reducible refine QM ?_ ?_|exact tv|with_reducible exact qRr|exact rfl|refine aI ?_ ?_
  .refine⟨3,by decide,by decide,λe J r=>qq _ _ _ _ _ _ _ _ _ _ (by decide) (by unfold Xb;rw[b];rfl) r,rfl,rfl,_,QTO w d D L k c x R C q,?_⟩
   repeat' first|with_reducible refine QM ?_ ?_|exact tv|with_reducible exact qRr|exact rfl|refine aI ?_ ?_
 | 3,_=>
  have et:=QeE QK w d D L k c x R C q g;refine Qh et ?_;clear et;refine QE (λb=>QG (by simp;omega) (QE (λb1=>?_) (λb1=>?_))) (λb=>?_)
  .exact⟨_,.inl ⟨rfl,rfl⟩,rfl,rfl,_,QFH,⟨rfl,trivial⟩⟩
  .refine⟨4,by decide,by decide,λe J r=>qq _ _ _ _ _ _ _ _ _ _ (by decide) (by unfold Xb;rw[b];exact b1) r,rfl,rfl,_,QTS w d D L k c x R C q,?_⟩
   repeat' first|with_reducible refine QM ?_ ?_|exact tv|with_reducible exact qRr|exact rfl|refine aI ?_ ?_
  .refine⟨4,by decide,by decide,λe J r=>qq _ _ _ _ _ _ _ _ _ _ (by decide) (by unfold Xb;rw[b];rfl) r,rfl,rfl,_,QTS w d D L k c x R C q,?_⟩
   repeat' first|with_reducible refine QM ?_ ?_|exact tv|with_reducible exact qRr|exact rfl|refine aI ?_ ?_
 | 4,_=>
  have et:=QdA QK w d D L k c x R C q g;refine Qh et ?_;clear et;refine⟨_,.inr ⟨rfl,rfl,rfl⟩,rfl,rfl,_,QWr w d D L k c x R C q,?_⟩
  repeat' first|with_reducible refine QM ?_ ?_|exact tv|with_reducible exact qRr|exact rfl|refine aI ?_ ?_
 | j+5,hj=>exact absurd hj (by omega)
theorem QXO(hL:∀ i,i<L.length->Y2 d (tuX L i))(k:Int)(c:Nat)(G:Ctx)(hrd:G.rd=none)(hG:G.n<=8):Q0 (mkF prog (VS QK w)) G (tuH prog QK w d D L k c (tuX L c) (i64.wrap ((c:Int).tdiv d.wide)) ((c:Int).tmod d.wide) (rmW d c) (WL d L c=true)) (QI f5 0):=by
 refine KO (body:=QW (QI f5 0)) (KS (QCz w)) hrd (by kernel_rfl) ?_
 refine JJ λhc=>?_;refine XP (I:=λj=>YL w d D L k c (tuX L c) (i64.wrap ((c:Int).tdiv d.wide)) ((c:Int).tmod d.wide) (rmW d c) j) (n0:=8) (KS (QCz w)) hG (λj hj=>Qz (KS (QCz w)) 0 G _ hrd) (λj hj=>(by decide:8<=904)) ?_ (QjQ w d D L k c (tuX L c) (i64.wrap ((c:Int).tdiv d.wide)) ((c:Int).tmod d.wide) (rmW d c) (hL c hc)) (s0:=0) (Nat.zero_le _) ?_
 .rintro s e J (⟨_,rfl⟩|⟨_,_,rfl⟩)<;>exact(by decide:8<=904)
 .rintro e J (⟨rfl,rfl⟩|⟨rfl,h,rfl⟩)
  .exact⟨_,qmc,trivial,rfl,rfl⟩
  .exact⟨_,List.mem_cons_of_mem _ qmc,h,rfl,rfl⟩
theorem QlK{w:Rw QU}{d:Puz}{D:Int}{L:List Lay}{k:Int}{c:Nat}(a:WL d L c=true)(b1:tuC d c=true)(b2:trV w d.pK D k (sdR d (tuL L c) 1) (sdR d (tuX L c) 3)=true)(b3:tuR d c=true)(b4:trV w d.pK D (trK k (sdR d (tuL L c) 1) (sdR d (tuX L c) 3)) (sdR d (tuU d L c) 2) (sdR d (tuX L c) 0)=true):XO w d D L k c=true/\trK (trK k (sdR d (tuL L c) 1) (sdR d (tuX L c) 3)) (sdR d (tuU d L c) 2) (sdR d (tuX L c) 0)=YM d L (VT d L k c) c:=by
 have hk:VT d L k c=trK k (sdR d (tuL L c) 1) (sdR d (tuX L c) 3):=by unfold VT;rw[b1];rfl
 refine⟨?_,?_⟩
 .unfold XO H6 QAQ;rw[hk,a,b1,b2,b3,b4];rfl
 .unfold YM;rw[hk,b3];rfl
theorem Qi4{w:Rw QU}{d:Puz}{D:Int}{L:List Lay}{k:Int}{c:Nat}(a:WL d L c=true)(b1:tuC d c=true)(b2:trV w d.pK D k (sdR d (tuL L c) 1) (sdR d (tuX L c) 3)=true)(b3:tuR d c=false):XO w d D L k c=true/\trK k (sdR d (tuL L c) 1) (sdR d (tuX L c) 3)=YM d L (VT d L k c) c:=by
 have hk:VT d L k c=trK k (sdR d (tuL L c) 1) (sdR d (tuX L c) 3):=by unfold VT;rw[b1];rfl
 refine⟨?_,?_⟩
 .unfold XO H6 QAQ;rw[hk,a,b1,b2,b3];rfl
 .unfold YM;rw[hk,b3];rfl
theorem QiF{w:Rw QU}{d:Puz}{D:Int}{L:List Lay}{k:Int}{c:Nat}(a:WL d L c=true)(b1:tuC d c=false)(b3:tuR d c=true)(b4:trV w d.pK D k (sdR d (tuU d L c) 2) (sdR d (tuX L c) 0)=true):XO w d D L k c=true/\trK k (sdR d (tuU d L c) 2) (sdR d (tuX L c) 0)=YM d L (VT d L k c) c:=by
 have hk:VT d L k c=k:=by unfold VT;rw[b1];rfl
 refine⟨?_,?_⟩
 .unfold XO H6 QAQ;rw[hk,a,b1,b3,b4];rfl
 .unfold YM;rw[hk,b3];rfl
theorem QZS{w:Rw QU}{d:Puz}{D:Int}{L:List Lay}{k:Int}{c:Nat}(a:WL d L c=true)(b1:tuC d c=false)(b3:tuR d c=false):XO w d D L k c=true/\k=YM d L (VT d L k c) c:=by
 have hk:VT d L k c=k:=by unfold VT;rw[b1];rfl
 refine⟨?_,?_⟩
 .unfold XO H6 QAQ;rw[hk,a,b1,b3];rfl
 .unfold YM;rw[hk,b3];rfl
def QHF(e:Ex)(J:JSt):Prop:=(e = .ret/\J=GP 696)∨(e = .exit 0/\(∀ j,c<=j->j<L.length->XO w d D L (tuN d L j) j=true)/\J=QI8)
theorem QD8{w:Rw QU}{d:Puz}{D:Int}{L:List Lay}{c:Nat}(ok:XO w d D L (tuN d L c) c=true){e:Ex}{J:JSt}(r:QHF w d D L (c+1) e J):QHF w d D L c e J:=by
 rcases r with r|⟨r1,r2,r3⟩
 .exact .inl r
 .refine .inr ⟨r1,λj h1 h2=>?_,r3⟩;rcases Nat.eq_or_lt_of_le h1 with h|h
  .rw[<-h];exact ok
  .exact r2 j h h2
set_option maxHeartbeats 1000000 in
theorem QeZ{w:Rw QU}{d:Puz}{L:List Lay}(ho:d.ok=true)(hw:1<=w.n)(hl:L.length=d.ps.n)(hL:∀ i,i<L.length->Y2 d (tuX L i)):K6 (λc=>W7 w d D L (tuN d L c) c) (λc=>c<=L.length) (λc=>L.length-c) (QHF w d D L) 8 QOC [] (λ_=>mkF prog (VS QK w)) (λc=>tuH prog QK w d D L (tuN d L c) c (tuX L c) (i64.wrap ((c:Int).tdiv d.wide)) ((c:Int).tmod d.wide) (rmW d c) (WL d L c=true)) (QI f5 0):=by
 refine⟨λc g hk=>?_⟩;have hk:c<=L.length:=hk;obtain⟨hd,hpos,h9⟩:=JW (JU ho);have hw1:=hd.w1;have hw2:=hd.wn;have hS:=QV8 d L c (by omega)
 have hr:=QBi hd c;unfold Qs at hr;have wr:i64.wrap ((c:Int).tdiv d.wide)=(c:Int).tdiv d.wide:=w64 (by omega) (by omega)
 have wu:i64.wrap ((c:Int)-d.wide)=(c:Int)-d.wide:=w64 (by omega) (by omega)
 have wl:i64.wrap ((c:Int)-1)=(c:Int)-1:=w64 (by omega) (by omega)
 have hpb:QK [w.n=w.n,w.n=w.n,QB 1 w.n (λi=>QA.enc (w.get i)) λi=>QA.enc (w.get i)]=true:=KG.2 ⟨rfl,rfl,qRr,trivial⟩
 have hgd:∀{k:Int} {a b:Edge},0<=k->k<=90000->a.ok=true->b.ok=true->(Zz (k,a,b)&&(decide (1<=w.n)&&QK [w.n=w.n,w.n=w.n,QB 1 w.n (λi=>QA.enc (w.get i)) λi=>QA.enc (w.get i)]))=true:=λ{k a b} h0 h1 h2 h3=>by
  rw[Qao h2 h3 h0 h1,qde hw,hpb];rfl
 have hgt:∀{a b a' b':Edge},a.ok=true->b.ok=true->(Zz (trK (tuN d L c) a' b',a,b)&&(decide (1<=w.n)&&QK [w.n=w.n,w.n=w.n,QB 1 w.n (λi=>QA.enc (w.get i)) λi=>QA.enc (w.get i)]))=true:=λ{a b a' b'} h2 h3=>by
  have:=QKq (k:=tuN d L c) (by omega) (by omega) a' b'
  exact hgd (by omega) (by omega) h2 h3
 have et:=Qgg QK w d D L (tuN d L c) c (tuX L c) (i64.wrap ((c:Int).tdiv d.wide)) ((c:Int).tmod d.wide) (rmW d c) (WL d L c=true) g;refine Qh et ?_;clear et;refine QE (λb0=>?_) (λb0=>?_);have h:c<L.length:=by have:=qdt b0;omega
 have hx:Y2 d (L.getD c ⟨0,0⟩):=hL c h;have hx1:=hx.p;have hx2:=hx.t;have hX1:0<=(tuX L c).piece/\(tuX L c).piece<d.ps.n:=hx.p;have hX2:0<=(tuX L c).turn/\(tuX L c).turn<4:=hx.t;have hws:i64.wrap ((c:Int)+1)=((c+1:Nat):Int):=w64 (by omega) (by omega)
 iterate 4 (refine QG ?_ ?_;rotate_left)
 iterate 57 refine Qt (by first|exact tv|exact h|with_reducible exact qRr|exact rfl) ?_
 refine Kq ?_ ?_;refine Qk λa0=>?_;refine Ql λg0=>?_
 .exact⟨_,.inl ⟨rfl,rfl⟩,rfl,rfl,_,QFx,⟨rfl,trivial⟩⟩
 refine Qk λa1=>?_;refine Ql λg1=>?_;refine QE ?_ ?_<;>intro b1
 have hc0:1<=c:=by
  rcases Nat.eq_zero_or_pos c with e|e
  .rw[e]at b1;simp at b1
  .exact e
 have hy:Y2 d (L.getD (i64.wrap ((c:Int)-1)).toNat ⟨0,0⟩):=hL _ (by omega)
 have hy1:=hy.p;have hy2:=hy.t
 iterate 5 (refine QG ?_ ?_;rotate_left)
 refine QE ?_ ?_<;>intro b2
 .exact⟨_,.inl ⟨rfl,rfl⟩,rfl,rfl,_,QFx,⟨rfl,trivial⟩⟩
 refine QE (λb3=>?_) (λb3=>?_);have hp0:d.wide<=c:=QCH hd (show 0<Qs d c by have:=qdt b3;unfold Qs;omega)
 have hz:Y2 d (L.getD (i64.wrap ((c:Int)-d.wide)).toNat ⟨0,0⟩):=hL _ (by omega)
 have hz1:=hz.p;have hz2:=hz.t
 iterate 5 (refine QG ?_ ?_;rotate_left)
 refine QE ?_ ?_<;>intro b4
 .exact⟨_,.inl ⟨rfl,rfl⟩,rfl,rfl,_,QFx,⟨rfl,trivial⟩⟩
 obtain⟨ok,ek⟩:=QlK (w:=w) (D:=D) (k:=tuN d L c) a1 b1 (QEs b2) b3 (QEs b4);refine⟨c+1,h,by show L.length-(c+1)<L.length-c;omega,λe J r=>QD8 ok r,rfl,rfl,_,Qfs w d D L (tuN d L c) (tuN d L (c+1)) c (c+1) (tuX L c),?_⟩
 rotate_left
 obtain⟨ok,ek⟩:=Qi4 (w:=w) (D:=D) (k:=tuN d L c) a1 b1 (QEs b2) b3;refine⟨c+1,h,by show L.length-(c+1)<L.length-c;omega,λe J r=>QD8 ok r,rfl,rfl,_,QeP w d D L (tuN d L c) (tuN d L (c+1)) c (c+1) (tuX L c),?_⟩
 rotate_left
 refine QE (λb5=>?_) (λb5=>?_);have hp0:d.wide<=c:=QCH hd (show 0<Qs d c by have:=qdt b5;unfold Qs;omega)
 have hz:Y2 d (L.getD (i64.wrap ((c:Int)-d.wide)).toNat ⟨0,0⟩):=hL _ (by omega)
 have hz1:=hz.p;have hz2:=hz.t
 iterate 5 (refine QG ?_ ?_;rotate_left)
 refine QE ?_ ?_<;>intro b6
 .exact⟨_,.inl ⟨rfl,rfl⟩,rfl,rfl,_,QFx,⟨rfl,trivial⟩⟩
 obtain⟨ok,ek⟩:=QiF (w:=w) (D:=D) (k:=tuN d L c) a1 b1 b5 (QEs b6);refine⟨c+1,h,by show L.length-(c+1)<L.length-c;omega,λe J r=>QD8 ok r,rfl,rfl,_,Qgn w d D L (tuN d L c) (tuN d L (c+1)) c (c+1) (tuX L c),?_⟩
 rotate_left
 obtain⟨ok,ek⟩:=QZS (w:=w) (D:=D) (k:=tuN d L c) a1 b1 b5;refine⟨c+1,h,by show L.length-(c+1)<L.length-c;omega,λe J r=>QD8 ok r,rfl,rfl,_,QlO w d D L (tuN d L c) (tuN d L (c+1)) c (c+1) (tuX L c),?_⟩
 rotate_left
 .have h:L.length<=c:=by have:=qdf b0;omega
  refine⟨_,.inr ⟨rfl,λj h1 h2=>absurd h2 (by omega),rfl⟩,rfl,rfl,_,QYX,trivial⟩
 all_goals first|((with_reducible show _=true);(first|rfl|exact hgd (by omega) (by omega) (zq ho (by omega)).1 (zq ho (by omega)).1|exact hgt (zq ho (by omega)).1 (zq ho (by omega)).1|(simp only[Bool.not_eq_true',decide_eq_false_iff_not];omega)|(simp only[qlr,decide_true,Bool.and_true,Bool.true_and,qbA,qdE];omega)))|(repeat' first|with_reducible refine QM ?_ ?_|exact tv|with_reducible exact qRr|with_reducible exact hws|exact ek|exact rfl|refine aI ?_ ?_)
