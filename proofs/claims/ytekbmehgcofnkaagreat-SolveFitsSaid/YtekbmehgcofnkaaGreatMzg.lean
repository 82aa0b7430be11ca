/- - -/
import Derived.Test.YtekbmehgcofnkaaGreatMzf
open Go.Proofs.Tryz
open Go.IntKind (i64)
set_option maxRecDepth 100000
namespace Go.Proofs.YtekbmehgcofnkaaGreat
open Go.SX Go.SX.Told
variable (d:Puz)(pb:List Prop->Bool)(n e:Int)
def vP(d:Puz)(E:ECt):Tab:=Qa QT 60 (KM pb (nbU d E))
abbrev whH(P:Program)(pb:List Prop->Bool)(d:Puz)(E:ECt)(p:Int)(X:List (Prop×Ex×JSt)):Hnd:={ hnd (mkE P (vP pb d E)) 8 with loop:=λ_=>JT (d.ok=true) (KC 112 [200,201] (Ye d E p 0 (0:Nat)) X) }
def YS:AV := .tup [.int false .i64 n,.int false .i64 e]
theorem QaO(d:Puz)(E:ECt)(p cells':Int):Kd (mkE prog (vP pb d E)) (whH prog pb d E p [(True,.exit 1,Gx cells')]) f17 (Qb.vals 0 ((d,p,()):Puz×Int×Unit)) (Qb.blks 0 ((d,p,()):Puz×Int×Unit)) 112 = .need (decide (d.ps.n<=d.ps.n)&&true&&decide (d.ps.n<=1000)) (.br (!d.ok) (.leaf (.tup [vj 0,vj 1]) ([])) (.need (pb ((waa d++([cO=cO]++wad d)))) (.need (true) (.br (!Qz p (0:Int) (i64.wrap ((d.ps.n:Int)-1))) (.leaf (.tup [vj 0,vj 2]) ([])) (.ak ([d.ok=true,p=p,(0:Int)=0,0=0,0=0,(d.ps.n:Int)=(d.ps.n:Int),(0:Int)=0]++waa d++([cO=cO,0=0,E.1=E.1,E.2=E.2,0=0]++wad d)) (.asm (True) (.all (λ(g0:Nat->Value)=>.br (cells'==0) (.leaf (.tup [vj 0,vj 4]) ([])) (.leaf (.tup [vi cells',vj 0]) ([])))))))))):=by kernel_rfl
theorem QYZ:QF 112 [(AV.tup [vj (0:Int),vj (1:Int)])] ([]) (KW 112 (YS n e) [])=( some [(0:Int)=n,(1:Int)=e]):=by kernel_rfl
theorem QbX:QF 112 [(AV.tup [vj (0:Int),vj (2:Int)])] ([]) (KW 112 (YS n e) [])=( some [(0:Int)=n,(2:Int)=e]):=by kernel_rfl
theorem QaU:QF 112 [(AV.tup [vj (0:Int),vj (4:Int)])] ([]) (KW 112 (YS n e) [])=( some [(0:Int)=n,(4:Int)=e]):=by kernel_rfl
theorem Qhm(cells' n e:Int):QF 112 [(AV.tup [vi cells',vj (0:Int)])] ([]) (KW 112 (YS n e) [])=( some [cells'=n,(0:Int)=e]):=by kernel_rfl
def QJ6(p:Int):Int×Int:=cond d.ok
 (cond (Qz p 0 (i64.wrap ((d.ps.n:Int)-1))) (cond (qQ d (QK d) p==0) (0,4) (qQ d (QK d) p,0)) (0,2)) (0,1)
def ZF:WF (Puz×Int×Unit):=λ|(d,p,_)=>(decide (d.ps.n<=1000),YS (QJ6 d p).1 (QJ6 d p).2,[])
def QS1:FC:=wFC ZF
theorem QVd(p:Int):WOk (ZF (d,p,())).2.1 (ZF (d,p,())).2.2:=⟨rfl,by simp[ZF],rfl⟩
theorem QcO(p:Int)(hn:d.ps.n<=1000)(G:Ctx)(hrd:G.rd=none)(hG:G.n=112):Qw (mkE prog (vP QQ d (QK d))) G (whH prog QQ d (QK d) p [(True,.exit 1,Gx (qQ d (QK d) p))]) (Qk f17):=by
 have hT:Qc (vP QQ d (QK d)):=Qh.add (Zn d (by omega))
 refine KN (body:=QH f17 0) (QO hT) hrd (by kernel_rfl) ?_
 refine Jh λho=>?_;have hd:=(ZA (Y4 ho)).1;have hT1:Qc (qN QQ d p):=Qh.add (X6 d 0 p);refine Jo (E0:=mkE prog (vP QQ d (QK d))) (E:=λ_:Nat×Int=>mkE prog (qN QQ d p)) (H:=λk=>QDs prog QQ d (QK d) p k.2 k.1 [(True,.exit 3,Ye d (QK d) p (WB d (QK d) p k.2 k.1) k.1)]) (n0:=112) (s0:=(0,0)) (λ_=>rfl) (λ_=>QO hT1) (by omega) (λk _=>QeQ hd (Y1 d hn).w p k.2 k.1 G hrd (by omega)) (λk _=>(by decide:112<=400)) ?_ (Qfd d (QK d) p hn) (Nat.zero_le _) ?_
 .rintro k e J ⟨_,rfl⟩;exact(by decide:112<=400)
 .rintro e J ⟨rfl,rfl⟩;exact⟨_,qmc,trivial,rfl,rfl⟩
theorem QYM(p:Int)(hx:(ZF (d,p,())).1=true):QR prog 17 (wFC (VY ZF (d,p,()))):=by
 have hn:d.ps.n<=1000:=qdt hx;have hT:Qc (vP QQ d (QK d)):=Qh.add (Zn d (by omega))
 refine Yu (c:=Qk f17) (E:=mkE prog (vP QQ d (QK d))) (H:=whH prog QQ d (QK d) p [(True,.exit 1,Gx (qQ d (QK d) p))]) (QO hT) func17 (by kernel_rfl) (by kernel_rfl) (N:=112) (by decide) (d,p,()) (λG h1 h2=>QcO d p hn G h1 h2) (QVd d p) ?_
 have hv:QJ6 d p=cond d.ok (cond (Qz p 0 (i64.wrap ((d.ps.n:Int)-1))) (cond (qQ d (QK d) p==0) (0,4) (qQ d (QK d) p,0)) (0,2)) (0,1):=rfl;have et:=QaO QQ d (QK d) p (qQ d (QK d) p);generalize qQ d (QK d) p=W at et hv ⊢;refine Qf et ?_;clear et;refine QG ?_ ?_;rotate_left;refine QE (λb0=>?_) (λb0=>?_);have ho:d.ok=false:=by simpa using b0
 rw[ho,cond_false]at hv;simp only[ZF,hv];refine⟨rfl,rfl,_,QYZ 0 1,?_⟩
 rotate_left
 have ho:d.ok=true:=by simpa using b0
 iterate 2 (refine QG ?_ ?_;rotate_left)
 refine QE (λb1=>?_) (λb1=>?_);have hw:Qz p 0 (i64.wrap ((d.ps.n:Int)-1))=false:=by simpa using b1
 rw[ho,hw,cond_true,cond_false]at hv;simp only[ZF,hv];refine⟨rfl,rfl,_,QbX 0 2,?_⟩
 rotate_left
 iterate 24 refine Qu (by first|exact tv|exact ho|with_reducible exact qRr|exact rfl) ?_
 refine Qg λa0=>?_;refine Qj λg0=>?_;refine QE (λb2=>?_) (λb2=>?_);have hw:Qz p 0 (i64.wrap ((d.ps.n:Int)-1))=true:=by simpa using b1
 rw[ho,hw,cond_true,cond_true,show(W==0)=true from b2,cond_true]at hv;simp only[ZF,hv];refine⟨rfl,rfl,_,QaU 0 4,?_⟩
 rotate_left
 have hw:Qz p 0 (i64.wrap ((d.ps.n:Int)-1))=true:=by simpa using b1
 rw[ho,hw,cond_true,cond_true,show(W==0)=false from b2,cond_false]at hv;simp only[ZF,hv];refine⟨rfl,rfl,_,Qhm W W 0,?_⟩
 rotate_left
 all_goals first|((with_reducible show _=true);(first|(simp;done)|(refine KI.2 ?_;repeat' first|with_reducible refine QL ?_ ?_|exact tv|with_reducible exact qRr|exact rfl|refine aI ?_ ?_)|(simp;omega)))|(repeat' first|with_reducible refine QL ?_ ?_|exact tv|with_reducible exact qRr|exact rfl|refine aI ?_ ?_)
theorem QfT:QR prog 17 QS1:=Gc (by kernel_rfl) λ|(d,p,()),hx=>QYM d p hx
end Go.Proofs.YtekbmehgcofnkaaGreat
namespace Go.SX
open Go Go.RowKit Go.Proofs.YtekbmehgcofnkaaGreat
structure Rc (α:Type) where
 n:Nat
 get:Nat->α
 c:Nat
def Rc.rw{α:Type}(x:Rc α):Rw α:=⟨x.n,x.get⟩
def QFw:AV->Option Nat
 | .slz _ _ _ (.lit c)=>some c
 | .slice _ _ _ _ (.lit c)=>some c
 | .nils=>some 0
 | _=>none
theorem QjF{ks:List CK}{v:AV}{c:Nat}(hc:QFw v=some c){lk:Nat->Option Blk}{p:Bool}{m:Nat}{g g':Nat->Nat->Int}(h:GA ks v lk=some (p,m,g))(hp:p=true)(hg:∀ i,QV ks g' i=QV ks g i){r:Nat->Loc}{w:World}(hb:∀ id b,lk id=some b->QM r id w b):
  ∃ l:Loc,∀(k:Nat) (r':Nat->Loc),r' k=l->(AV.slz k 0 m (.lit c)).den r'=v.den r/\QM r' k w (.frz ks m g'):=by
 have main:((∃ id e n,v = .slz id e n (.lit c))->∀ id e n,v = .slz id e n (.lit c)->(r id).nil=false)->∃ l:Loc,∀(k:Nat) (r':Nat->Loc),r' k=l->(AV.slz k 0 m (.lit c)).den r'=v.den r/\QM r' k w (.frz ks m g'):=by
  intro hnn;obtain⟨l,hl⟩:=QTH h hp hg hb;refine⟨l,λk r' hr=>⟨?_,(hl k r' hr).2⟩⟩;have hd:=(hl k r' hr).1;unfold QFw at hc;split at hc<;>(try (cases hc;done))
  .simp only[qsI]at hc;subst hc;rename_i id e n c;have hn:=hnn ⟨_,_,_,rfl⟩ id e n rfl;rw[<-hd];simp only[AV.den,Loc.room,hn,Cap.den,Value.slice.injEq]at hd ⊢;obtain⟨_,_,h3⟩:=hd;refine⟨trivial,trivial,?_⟩;cases hk:(r' k).nil with
   | true=>rfl
   | false=>rw[hk]at h3;simp only[Nat.sub_zero]at h3 ⊢;exact h3.symm
  .simp only[qsI]at hc;subst hc;rw[<-hd];simp only[AV.den,Loc.room,Cap.den,Value.slice.injEq]at hd ⊢;obtain⟨_,_,h3⟩:=hd;refine⟨trivial,trivial,?_⟩;cases hk:(r' k).nil with
   | true=>rfl
   | false=>rw[hk]at h3;simp only[Nat.sub_zero]at h3 ⊢;exact h3.symm
  .simp only[qsI]at hc;subst hc;rw[<-hd];simp only[AV.den,Loc.room,Cap.den,Value.slice.injEq]at hd ⊢;obtain⟨_,_,h3⟩:=hd;refine⟨trivial,trivial,?_⟩;cases hk:(r' k).nil with
   | true=>rfl
   | false=>rw[hk]at h3;simp only[Nat.sub_zero]at h3 ⊢;exact h3.symm
 by_cases hv:∃ id e n,v = .slz id e n (.lit c)
 .obtain⟨id,e,n,rfl⟩:=hv;cases hn:(r id).nil with
  | false=>exact main λ_ id' e' n' h'=>by cases h';exact hn
  | true=>
   have fin:∀(N:Nat),(r id).esz=ks.length->(∀ k,(r id).foot k->k<w.heap.size)->m+e<=N->N=0->m=n->∃ l:Loc,∀(k:Nat) (r':Nat->Loc),r' k=l->(AV.slz k 0 m (.lit c)).den r'=(AV.slz id e n (.lit c)).den r/\QM r' k w (.frz ks m g'):=by
    intro N h1 h2 h3 h4 h5;refine⟨r id,λk r' hr=>⟨?_,?_⟩⟩
    .simp only[AV.den,hr,Loc.base,Loc.room,hn,h5]
    .simp only[QM];rw[hr];exact⟨h1,h2,λ_=>by omega,λi hi=>by omega⟩
   unfold GA at h;simp only at h;split at h<;>(try (cases h;done))
   .rename_i o ty ks' N g0 hlk;split at h<;>(try (cases h;done))
    rename_i hk;have:=YD hk;subst this;simp only[qsI,qpI]at h;obtain⟨rfl,rfl,rfl⟩:=h;have hbb:=hb _ _ hlk;have hb0:Kn r id w ty ks'.length N (QV ks' g0):=hbb;exact fin N hb0.2.1 (hbb.lt rfl) (qdt hp) (hb0.2.2.2.1 hn) rfl
   .rename_i ks' N g0 hlk;split at h<;>(try (cases h;done))
    rename_i hk;have:=YD hk;subst this;simp only[qsI,qpI]at h;obtain⟨rfl,rfl,rfl⟩:=h;have hbb:=hb _ _ hlk;exact fin N hbb.1 hbb.2.1 (qdt hp) (hbb.2.2.1 hn) rfl
 .exact main λh=>absurd h hv
instance {α : Type} [QA α] : Qi (Rc α) where
  val k x := .slz k 0 x.n (.lit x.c)
  blk k x := [(k,.frz (QA.ks α) x.n λi=>QA.enc (x.get i))]
  dec v lk := match QFw v,GA (QA.ks α) v lk with
    | some c,some (p,m,g) => some (p,⟨m,λi=>QA.dec (g i),c⟩)
    | _,_ => none
  ok v lk p x h hp := by
    split at h <;> (try (cases h; done))
    rename_i c p' m g hc hd;simp only[qsI,qpI]at h;obtain⟨rfl,rfl⟩ := h;refine⟨λk=>⟨by simp[AV.all],λq hq=>?_⟩,λr w hb=>?_⟩
    . simp only[List.mem_singleton]at hq; subst hq; exact⟨rfl,rfl,rfl⟩
    . obtain⟨l,hl⟩ := QjF hc (g' := λi=>QA.enc (QA.dec (g i) : α)) hd hp (λi=>QA.ok (g i)) hb
      refine⟨l,λk r' hr=>⟨(hl k r' hr).1,λq hq=>?_⟩⟩;simp only[List.mem_singleton]at hq; subst hq; exact(hl k r' hr).2
end Go.SX
namespace Go.Proofs.YtekbmehgcofnkaaGreat
open Go.SX Go.SX.Told
variable (d:Puz)(C:Cap)(pb:List Prop->Bool)(n e:Int)(L:Rw Pt)(get:Nat->Pt)(E:ECt)(x:Pt)(k:Nat)(v:Int)
def ZE(i:Nat):Bool:=x.cell==(L.get i).cell||x.lay.piece==(L.get i).lay.piece
def ptC:List AV:=[vi x.cell,vi x.lay.piece,vi x.lay.turn]
def piB:List (Nat×Blk):=[(16,.cellsR 0 63 (ptC x))]++Qi.blk 8 L
def piU:UC:=⟨0,⟨2,[(0,.slz 8 0 L.n C),(1,.fn (.func 57) [.ptr 16 0 0])],piB L x,24⟩,λ_=>.int false .i64 v,λ_=>[]⟩
def piJ:JSt:=⟨19,[(0,.slz 8 0 L.n C),(1,.fn (.func 57) [.ptr 16 0 0]),(7,.int false .i64 L.n),(8,.int false .i64 k)],piB L x,24⟩
def Yf(k:Int):JSt:=⟨19,[(4,.int false .i64 k)],[],24⟩
def W0:JSt:=⟨19,[],[],24⟩
def QFJ:Ex->List Nat
 | .normal=>[0,1,7,8]
 | .exit _=>[]
 | .ret=>[4]
theorem Qe8(g:Nat->Value):exec (mkE prog QT) (hnd (mkE prog QT) 2) (QH f101 0) (JSt.inst (piJ C L x k) g) (Q9 [] QFJ)=QC.br (decide ((↑k:Int)<(↑L.n:Int))) (QC.need (decide ((0:Int)<=(↑k:Int)/\(↑k:Int)<(↑L.n:Int))&&decide (L.n<=L.n)) (QC.need (decide (k<L.n)) (QC.br (x.cell==(L.get k).cell) (QC.leaf (AV.tup [AV.nili,AV.ptr (19:Nat) (0:Nat) (0:Nat),vi (↑k:Int)]) ([])) (QC.br (x.lay.piece==(L.get k).lay.piece) (QC.leaf (AV.tup [AV.nili,AV.ptr (19:Nat) (0:Nat) (0:Nat),vi (↑k:Int)]) ([])) (QC.leaf (AV.tup [AV.nilp,AV.ptr (19:Nat) (0:Nat) (0:Nat),AV.slz (8:Nat) (0:Nat) L.n C,AV.fn (Fn.func (57:Nat)) [AV.ptr (16:Nat) (0:Nat) (0:Nat)],vi (↑L.n:Int),vi (i64.wrap ((↑k:Int)+(1:Int)))]) ([((8:Nat),Blk.frz [CK.int i64,CK.int i64,CK.int i64] L.n λi=>QA.enc (L.get i)),((16:Nat), Blk.cellsR (0:Nat) (63:Nat) [vi x.cell,vi x.lay.piece,vi x.lay.turn])])))))) (QC.leaf (AV.tup [AV.ptr (0:Nat) (0:Nat) (0:Nat),AV.ptr (19:Nat) (0:Nat) (0:Nat)]) ([])):=by kernel_rfl
theorem QdB(j:Int):QF 24 [vi (↑k:Int)] ([]) (Yf j)=( some [(↑k:Int)=j]):=by kernel_rfl
theorem QaJ(j:Int):QF 24 [vi (↑k:Int)] ([]) (Yf j)=( some [(↑k:Int)=j]):=by kernel_rfl
theorem Qbe(k k':Nat):QF 24 [AV.slz (8:Nat) (0:Nat) L.n C,AV.fn (Fn.func (57:Nat)) [AV.ptr (16:Nat) (0:Nat) (0:Nat)],vi (↑L.n:Int),vi (i64.wrap ((↑k:Int)+(1:Int)))] ([((8:Nat),Blk.frz [CK.int i64,CK.int i64,CK.int i64] L.n λi=>QA.enc (L.get i)),((16:Nat),Blk.cellsR (0:Nat) (63:Nat) [vi x.cell,vi x.lay.piece,vi x.lay.turn])]) (piJ C L x k')=( some [0=0,L.n=L.n,C=C,Fn.func (57:Nat)=Fn.func (57:FuncId),0=0,0=0,(↑L.n:Int)=(↑L.n:Int), i64.wrap ((↑k:Int)+(1:Int))=(↑k':Int),x.cell=x.cell,x.lay.piece=x.lay.piece,x.lay.turn=x.lay.turn,L.n<=L.n,QB (3:Nat) L.n (λi=>QA.enc (L.get i)) λi=>QA.enc (L.get i)]):=by kernel_rfl
theorem QWZ :QF 24 [] ([]) W0=( some []):=by kernel_rfl
abbrev piH(P:Program)(C:Cap)(L:Rw Pt)(x:Pt)(X:List (Prop×Ex×JSt)):Hnd:={ hnd (mkE P QT) 2 with loop:=λ_=>KC 24 [] (piJ C L x (0:Nat)) X }
theorem QgV(A B:Prop)(k v:Int):VS (mkE prog QT) (piH prog C L x [(A,.ret,Yf k),(B,.exit 0,W0)]) f101 (piU C L x v)=QC.ask (0=0) (QC.ask (L.n=L.n) (QC.ask (C=C) (QC.ask (Fn.func (57:FuncId)=Fn.func (57:FuncId)) (QC.ask (0=0) (QC.ask (0=0) (QC.ask ((↑L.n:Int)=(↑L.n:Int)) (QC.ask ((0:Int)=(0:Int)) (QC.ask (x.cell=x.cell) (QC.ask (x.lay.piece=x.lay.piece) (QC.ask (x.lay.turn=x.lay.turn) (QC.ask (L.n<=L.n) (QC.ask (QB (3:Nat) L.n (λi=>QA.enc (L.get i)) λi=>QA.enc (L.get i)) (QC.both (QC.asm (A) (QC.all (λ(g0:Nat -> Value)=>QC.leaf (vi k) ([])))) (QC.asm (B) (QC.all (λ(g1:Nat->Value)=>QC.leaf (vj (-1:Int)) ([]))))))))))))))))):=by kernel_rfl
theorem Qeq(k v:Int):QF 24 [(vi k)] ([]) (Kf (piU C L x v))=( some [k=v]):=by kernel_rfl
theorem QZs:QF 24 [(vj (-1:Int))] ([]) (Kf (piU C L x v))=( some [(-1:Int)=v]):=by kernel_rfl
def XE:Option Nat:=QP (ZE L x) L.n 0
def piR(e:Ex)(J:JSt):Prop:=(e = .ret/\(QP (ZE L x) (L.n-k) k).isSome=true/\J=Yf (Ku (QP (ZE L x) (L.n-k) k)))∨(e = .exit 0/\QP (ZE L x) (L.n-k) k=none/\J=W0)
theorem QY5(hn:L.n<=1000):JP (piJ C L x) (λk=>k<=L.n) (λk=>L.n-k) (piR L x) 24 QFJ [] (mkE prog QT) (λ_=>hnd (mkE prog QT) 2) (QH f101 0):=by
 refine⟨λk g0 hk=>Qf (Qe8 C L x k g0) ?_⟩;have hk:k<=L.n:=hk;have hit:∀(h:k<L.n),ZE L x k=true->piR L x k .ret (Yf k):=λh hs=>.inl ⟨rfl,by rw[(JK h).1 hs];rfl,by rw[(JK h).1 hs];rfl⟩
 refine QE (λb0=>?_) (λb0=>?_);have h:k<L.n:=by have:=qdt b0;omega
 have hf:=JK (p:=ZE L x) h
 iterate 2 (refine QG ?_ ?_;rotate_left)
 refine QE ?_ ?_<;>intro b1
 .refine⟨_,hit h (by unfold ZE;rw[b1];rfl),rfl,rfl,_,QdB k k,⟨rfl,trivial⟩⟩
 refine QE ?_ ?_<;>intro b2
 .refine⟨_,hit h (by unfold ZE;rw[b1,b2];rfl),rfl,rfl,_,QaJ k k,⟨rfl,trivial⟩⟩
 have hb:ZE L x k=false:=by unfold ZE;rw[b1,b2];rfl
 refine⟨k+1,h,by show L.n-(k+1)<L.n-k;omega,λe J h=>by unfold piR at h ⊢;rw[hf.2 hb];exact h,rfl,rfl,_,Qbe C L x k (k+1),?_⟩
 rotate_left
 .have h:L.n<=k:=by have:=qdf b0;omega
  exact⟨_,.inr ⟨rfl,by rw[show L.n-k=0 by omega];rfl,rfl⟩,rfl,rfl,_,QWZ,trivial⟩
 all_goals first|((with_reducible show _=true);(first|rfl|(simp;omega)))|(repeat' first|with_reducible refine QL ?_ ?_|exact tv|exact qRr|exact Ja h hn|refine aI ?_ ?_)
def piX:List (Prop×Ex×JSt):=[((XE L x).isSome=true,.ret,Yf (Ku (XE L x))),(XE L x=none,.exit 0,W0)]
theorem QW8(hn:L.n<=1000)(G:Ctx)(hrd:G.rd=none)(hG:G.n=24):Qw (mkE prog QT) G (piH prog C L x (piX L x)) (Qk f101):=by
 refine KN (body:=QH f101 0) (QO Qh) hrd (by kernel_rfl) ?_
 refine Jq (n0:=24) (QO Qh) (by omega) (λs hs=>Qv (QO Qh) 2 G _ hrd) (λs hs=>(by decide:24<=24)) ?_ (QY5 C L x hn) (s0:=0) (Nat.zero_le _) ?_
 .rintro s e J (⟨_,_,rfl⟩|⟨_,_,rfl⟩)<;>exact(by decide:24<=24)
 .rintro e J (⟨rfl,h,rfl⟩|⟨rfl,h,rfl⟩)
  .exact⟨_,qmc,h,rfl,rfl⟩
  .exact⟨_,List.mem_cons_of_mem _ qmc,h,rfl,rfl⟩
theorem QXt:(piU C L x v).Ok:=⟨(by decide:0<=24),rfl,rfl,λq hq=>(by cases hq),rfl,λ_ _=>rfl,λ_ _=>rfl⟩
theorem QVM(hn:L.n<=1000):QR prog 101 (uFC (piU C L x (Ku (XE L x)))):=by
 refine K7 (E:=mkE prog QT) (QO Qh) func101 (by kernel_rfl) (by kernel_rfl) (QXt ..) (λG h1 h2=>QW8 C L x hn G h1 (by rw[h2];rfl)) ⟨?_⟩
 have et:=QgV C L x ((XE L x).isSome=true) (XE L x=none) (Ku (XE L x)) (Ku (XE L x));refine Qf et ?_;clear et
 iterate 13 refine Qu (by first|exact tv|with_reducible exact qRr|exact rfl) ?_
 refine Kh ?_ ?_;refine Qg λa0=>?_;refine Qj λg0=>?_;refine⟨rfl,rfl,_,Qeq C L x (Ku (XE L x)) (Ku (XE L x)),?_⟩
 rotate_left
 refine Qg λa1=>?_;refine Qj λg1=>?_
 .refine⟨rfl,rfl,_,QZs C L x (Ku (XE L x)),?_⟩;rw[a1]
  repeat' first|exact tv|exact rfl|refine aI ?_ ?_
 all_goals (repeat' first|exact tv|exact rfl|refine aI ?_ ?_)
def QWW(L:Rc Pt)(k:Nat):List (Nat×AV):=[(1,.slz 1 0 L.n (.lit L.c)),(2,.ptr 112 0 0),(6,.ptr 200 0 0),(25,.slz 1 0 L.n (.lit L.c)),(26,.int false .i64 L.n),(27,.int false .i64 k)]
def QA8(L:Rc Pt)(k:Nat):JSt:=⟨92,QWW L k,whB d E++[(112,.cells 0 28 (KS d))]++Qi.blk 0 d.ps++Qi.blk 1 L,400⟩
def QEE(L:Rc Pt):JSt:=⟨92,[(1,.slz 1 0 L.n (.lit L.c)),(6,.ptr 200 0 0)],whB d E++Qi.blk 0 d.ps++Qi.blk 1 L,400⟩
def YA:JSt:=⟨92,[(4,.int false .i64 n),(5,.int false .i64 e)],[],400⟩
def QLO:Ex->List Nat
 | .normal=>[1,2,6,25,26,27]
 | .exit _=>[1,6]
 | .ret=>[4,5]
def QKP(d:Puz)(L:Rc Pt)(k:Nat)(v:Int):Tab:=Qa (Qa QT 52 (KM pb (tnU d 0 (L.get k).lay.piece))) 101 (KM pb (piU (.lit L.c) ⟨k,L.get⟩ (L.get k) v))
noncomputable abbrev QJg:List AV:=
  [.nili,.ptr 92 0 0,vj 0,vj 2]
noncomputable abbrev ZZ:Nat×Blk:=
  (200,.cells 0 152 (List.append (waf d) ([.map 201,.slz 392 0 0 cO])))
noncomputable abbrev Xf:Nat×Blk:=
  (0,.frz (wae) d.ps.n λi=>QA.enc (d.ps.get i))
noncomputable abbrev ZU:Nat×Blk:=
  (392,.rowz true 49 kB 0 λi=>QA.enc ([].getD i (Lay.mk (0:Int) (0:Int))))
noncomputable abbrev jC(L:Rc Pt):Nat×Blk:=
  (1,.frz [.int .i64,.int .i64,.int .i64] L.1 λi=>QA.enc (L.2 i))
noncomputable abbrev QPk:Nat×Blk:=
  (112,.cells 0 28 (waf d))
theorem Qgy(d:Puz)(E:ECt)(L:Rc Pt)(k:Nat)(v:Int)(g0:Nat->Value):exec (mkE prog (QKP pb d L k v)) (hnd (mkE prog (QKP pb d L k v)) 2) (QH f19 0) (JSt.inst (QA8 d E L k) g0) (Q9 [200,201] QLO) = .br (decide ((k:Int)<(L.1:Int))) (.need (decide ((0:Int)<=(k:Int)/\(k:Int)<(L.1:Int))&&decide (L.1<=L.1)) (.need (decide (k<L.1)) (.need (true) (.br (!Qz (L.2 ((k:Int).toNat+0)).cell (0:Int) (i64.wrap ((d.ps.n:Int)-1))) (.leaf (.tup QJg) ([(ZZ d),(201,.mp E.1 E.2),(Xf d),ZU])) (.need (true) (.br (!Qz (L.2 ((k:Int).toNat+0)).lay.piece (0:Int) (i64.wrap ((d.ps.n:Int)-1))) (.leaf (.tup QJg) ([(ZZ d),(201,.mp E.1 E.2),(Xf d),ZU])) (.need (pb (([0=0,0=0,(L.2 ((k:Int).toNat+0)).lay.piece=(L.2 k).lay.piece]++waa d++([cO=cO,0=0,0=0,cO=cO]++wad d)))) (.need (true) (.br (!Qz (L.2 ((k:Int).toNat+0)).lay.turn (0:Int) (i64.wrap (tnV d (L.2 k).lay.piece-1))) (.leaf (.tup QJg) ([(ZZ d),(201,.mp E.1 E.2),(Xf d),ZU])) (.need (decide ((0:Int)<=(k:Int)/\k<=min L.1 L.3)) (.need (pb ([0=0,k=k, Cap.lit L.3=Cap.lit L.3,Fn.func 57=Fn.func 57,0=0,0=0,(L.2 ((k:Int).toNat+0)).cell=(L.2 k).cell,(L.2 ((k:Int).toNat+0)).lay.piece=(L.2 k).lay.piece,(L.2 ((k:Int).toNat+0)).lay.turn=(L.2 k).lay.turn,k<=L.1,QB 3 k (λi=>QA.enc (L.2 i)) λi=>QA.enc ((Rw.mk k L.2).get i)])) (.br (decide (v≥0)) (.leaf (.tup [.nili,.ptr 92 0 0,vj 0,vj 5]) ([(ZZ d),(201,.mp E.1 E.2),(Xf d),ZU])) (.leaf (.tup [.nilp,.ptr 92 0 0,.slz 1 0 L.1 (Cap.lit L.3),.ptr 112 0 0,.ptr 200 0 0,.slz 1 0 L.1 (Cap.lit L.3),vi (L.1:Int),vi (i64.wrap ((k:Int)+1))]) ([(ZZ d),(201,.mp E.1 E.2),(jC L),(QPk d), (Xf d),ZU])))))))))))))) (.leaf (.tup [.ptr 1 0 0,.ptr 92 0 0,.slz 1 0 L.1 (Cap.lit L.3),.ptr 200 0 0]) ([(ZZ d),(201,.mp E.1 E.2),(jC L),(Xf d),ZU])):=by kernel_rfl
theorem Qbd(n e:Int):QF 112 [vj (0:Int),vj (2:Int)] ([((200:Nat),Blk.cells (0:Nat) (152:Nat) (List.append (waD d) ([AV.bool false d.turn,AV.slz (0:Nat) (0:Nat) d.ps.n cO,AV.map (201:Nat),AV.slz (392:Nat) (0:Nat) (0:Nat) cO]))),((201:Nat),Blk.mp E.1 E.2),((0:Nat),Blk.frz [CK.int i64,CK.int i64,CK.int i64,CK.int i64,CK.int i64,CK.int i64,CK.int i64,CK.int i64,CK.int i64,CK.int i64,CK.int i64,CK.int i64,CK.int i64,CK.int i64,CK.int i64,CK.int i64,CK.int i64,CK.int i64,CK.int i64,CK.int i64,CK.int i64,CK.int i64,CK.int i64,CK.int i64,CK.int i64,CK.int i64,CK.int i64,CK.int i64] d.ps.n λi=>QA.enc (d.ps.get i)),((392:Nat),Blk.rowz true (49:Nat) [CK.int i64,CK.int i64] (0:Nat) λi=>QA.enc ([].getD i (Lay.mk (0:Int) (0:Int))))]) (YA n e)=( some [(0:Int)=n,(2:Int)=e]):=by kernel_rfl
theorem Qgh(n e:Int):QF 112 [vj (0:Int),vj (2:Int)] ([((200:Nat),Blk.cells (0:Nat) (152:Nat) (List.append (waD d) ([AV.bool false d.turn,AV.slz (0:Nat) (0:Nat) d.ps.n cO,AV.map (201:Nat),AV.slz (392:Nat) (0:Nat) (0:Nat) cO]))),((201:Nat),Blk.mp E.1 E.2),((0:Nat),Blk.frz [CK.int i64,CK.int i64,CK.int i64,CK.int i64,CK.int i64,CK.int i64,CK.int i64,CK.int i64,CK.int i64,CK.int i64,CK.int i64,CK.int i64,CK.int i64,CK.int i64,CK.int i64,CK.int i64,CK.int i64,CK.int i64,CK.int i64,CK.int i64,CK.int i64,CK.int i64,CK.int i64,CK.int i64,CK.int i64,CK.int i64,CK.int i64,CK.int i64] d.ps.n λi=>QA.enc (d.ps.get i)),((392:Nat),Blk.rowz true (49:Nat) [CK.int i64,CK.int i64] (0:Nat) λi=>QA.enc ([].getD i (Lay.mk (0:Int) (0:Int))))]) (YA n e)=( some [(0:Int)=n,(2:Int)=e]):=by kernel_rfl
theorem QWe(n e:Int):QF 112 [vj (0:Int),vj (2:Int)] ([((200:Nat),Blk.cells (0:Nat) (152:Nat) (List.append (waD d) ([AV.bool false d.turn,AV.slz (0:Nat) (0:Nat) d.ps.n cO,AV.map (201:Nat),AV.slz (392:Nat) (0:Nat) (0:Nat) cO]))),((201:Nat),Blk.mp E.1 E.2),((0:Nat),Blk.frz [CK.int i64,CK.int i64,CK.int i64,CK.int i64,CK.int i64,CK.int i64,CK.int i64,CK.int i64,CK.int i64,CK.int i64,CK.int i64,CK.int i64,CK.int i64,CK.int i64,CK.int i64,CK.int i64,CK.int i64,CK.int i64,CK.int i64,CK.int i64,CK.int i64,CK.int i64,CK.int i64,CK.int i64,CK.int i64,CK.int i64,CK.int i64,CK.int i64] d.ps.n λi=>QA.enc (d.ps.get i)),((392:Nat),Blk.rowz true (49:Nat) [CK.int i64,CK.int i64] (0:Nat) λi=>QA.enc ([].getD i (Lay.mk (0:Int) (0:Int))))]) (YA n e)=( some [(0:Int)=n,(2:Int)=e]):=by kernel_rfl
theorem QgD(n e:Int):QF 112 [vj (0:Int),vj (5:Int)] ([((200:Nat),Blk.cells (0:Nat) (152:Nat) (List.append (waD d) ([AV.bool false d.turn,AV.slz (0:Nat) (0:Nat) d.ps.n cO,AV.map (201:Nat),AV.slz (392:Nat) (0:Nat) (0:Nat) cO]))),((201:Nat),Blk.mp E.1 E.2),((0:Nat),Blk.frz [CK.int i64,CK.int i64,CK.int i64,CK.int i64,CK.int i64,CK.int i64,CK.int i64,CK.int i64,CK.int i64,CK.int i64,CK.int i64,CK.int i64,CK.int i64,CK.int i64,CK.int i64,CK.int i64,CK.int i64,CK.int i64,CK.int i64,CK.int i64,CK.int i64,CK.int i64,CK.int i64,CK.int i64,CK.int i64,CK.int i64,CK.int i64,CK.int i64] d.ps.n λi=>QA.enc (d.ps.get i)),((392:Nat),Blk.rowz true (49:Nat) [CK.int i64,CK.int i64] (0:Nat) λi=>QA.enc ([].getD i (Lay.mk (0:Int) (0:Int))))]) (YA n e)=( some [(0:Int)=n,(5:Int)=e]):=by kernel_rfl
abbrev QGx(L:Rc Pt):List Prop:=
  [0=0,L.1=L.1,Cap.lit L.3=Cap.lit L.3,0=0,0=0]
abbrev QGn(d:Puz):List Prop:=
  ((waC d++([0=0,d.ps.n=d.ps.n]++wbS E))++wam)
abbrev QHg(L:Rc Pt)(d:Puz):List Prop:=
  (wad d++[L.1<=L.1,QB 3 L.1 (λi=>QA.enc (L.2 i)) λi=>QA.enc (L.2 i)])
theorem Qf4(L:Rc Pt)(k k':Nat):QF 112 [.slz 1 0 L.1 (Cap.lit L.3),.ptr 112 0 0,.ptr 200 0 0,.slz 1 0 L.1 (Cap.lit L.3),vi (L.1:Int),vi (i64.wrap ((k:Int)+1))] ([(ZZ d),(201,.mp E.1 E.2),(jC L),(QPk d),(Xf d),ZU]) (QA8 d E L k')=(some ((QGx L)++([0=0,0=0,0=0,L.1=L.1,Cap.lit L.3=Cap.lit L.3,(L.1:Int)=(L.1:Int),i64.wrap ((k:Int)+1)=(k':Int)]++wbJ d)++(QGn E d)++(waa d++[cO=cO])++(QHg L d))):=by kernel_rfl
theorem Qe0(L:Rc Pt):QF 112 [.slz 1 0 L.1 (Cap.lit L.3),.ptr 200 0 0] ([(ZZ d),(201,.mp E.1 E.2),(jC L),(Xf d),ZU]) (QEE d E L)=(some ((QGx L)++(wbJ d)++(QGn E d)++(QHg L d))):=by kernel_rfl
def QcE(L:Rc Pt)(k:Nat):List (Nat×AV):=[(1,.slz 1 0 L.n (.lit L.c)),(6,.ptr 200 0 0),(77,.int false .i64 L.n),(78,.int false .i64 k)]
def QAE(L:Rc Pt)(k:Nat):JSt:=⟨92,QcE L k,whB d E++Qi.blk 0 d.ps++Qi.blk 1 L,400⟩
def QDF(L:Rc Pt):JSt:=⟨92,[(1,.slz 1 0 L.n (.lit L.c))],Qi.blk 1 L,400⟩
def QRO:Ex->List Nat
 | .normal=>[1,6,77,78]
 | .exit _=>[1]
 | .ret=>[4,5]
def QFx(d:Puz)(E:ECt)(C:Cap)(K:Rw Pt)(v:Bool):Tab:=Qa QT 53 (KM pb (hsU d E C K v))
noncomputable abbrev QJn:Nat×Blk:=
  (200,.cells 0 152 (List.append (waf d) ([.map 201,.slz 464 0 0 cO])))
noncomputable abbrev QG7:Nat×Blk:=
  (464,.rowz true 49 kB 0 λi=>QA.enc ([].getD i (Lay.mk (0:Int) (0:Int))))
theorem QWn(d:Puz)(E:ECt)(L:Rc Pt)(K:Rw Pt)(k:Nat)(v:Bool)(g0:Nat->Value):exec (mkE prog (QFx pb d E (.lit L.c) K v)) (hnd (mkE prog (QFx pb d E (.lit L.c) K v)) 0) (QH f19 1) (JSt.inst (QAE d E L k) g0) (Q9 [200,201] QRO) = .br (decide ((k:Int)<(L.1:Int))) (.need (decide ((0:Int)<=i64.wrap ((k:Int)+1)/\(i64.wrap ((k:Int)+1)).toNat<=min L.1 L.3)) (.need (pb (([0=0,0=0,0=0,(i64.wrap ((k:Int)+1)).toNat=K.n,Cap.lit L.3=Cap.lit L.3]++waa d++(((wbS E)++wam++[K.n<=L.1,QB 3 K.n (λi=>QA.enc (L.2 i)) λi=>QA.enc (K.get i)])++wad d)))) (.br (!v) (.leaf (.tup [.nili,.ptr 92 0 0,vi (k:Int),vj 0]) ([(QJn d),(201,.mp E.1 E.2),(Xf d),QG7])) (.leaf (.tup [.nilp,.ptr 92 0 0,.slz 1 0 L.1 (Cap.lit L.3),.ptr 200 0 0,vi (L.1:Int),vi (i64.wrap ((k:Int)+1))]) ([(QJn d),(201,.mp E.1 E.2),(jC L),(Xf d),QG7]))))) (.leaf (.tup [.ptr 4 0 0,.ptr 92 0 0,.slz 1 0 L.1 (Cap.lit L.3)]) ([(ZZ d),(201,.mp E.1 E.2),(jC L),(Xf d),ZU])):=by kernel_rfl
theorem Qen(n e:Int):QF 112 [vi (↑k:Int),vj (0:Int)] ([((200:Nat),Blk.cells (0:Nat) (152:Nat) (List.append (waD d) ([AV.bool false d.turn,AV.slz (0:Nat) (0:Nat) d.ps.n cO,AV.map (201:Nat),AV.slz (464:Nat) (0:Nat) (0:Nat) cO]))),((201:Nat),Blk.mp E.1 E.2),((0:Nat),Blk.frz [CK.int i64,CK.int i64,CK.int i64,CK.int i64,CK.int i64,CK.int i64,CK.int i64,CK.int i64,CK.int i64,CK.int i64,CK.int i64,CK.int i64,CK.int i64,CK.int i64,CK.int i64,CK.int i64,CK.int i64,CK.int i64,CK.int i64,CK.int i64,CK.int i64,CK.int i64,CK.int i64,CK.int i64,CK.int i64,CK.int i64,CK.int i64,CK.int i64] d.ps.n λi=>QA.enc (d.ps.get i)),((464:Nat),Blk.rowz true (49:Nat) [CK.int i64,CK.int i64] (0:Nat) λi=>QA.enc ([].getD i (Lay.mk (0:Int) (0:Int))))]) (YA n e)=( some [(↑k:Int)=n,(0:Int)=e]):=by kernel_rfl
theorem QgU(L:Rc Pt)(k k':Nat):QF 112 [.slz 1 0 L.1 (Cap.lit L.3),.ptr 200 0 0,vi (L.1:Int),vi (i64.wrap ((k:Int)+1))] ([(QJn d),(201,.mp E.1 E.2),(jC L),(Xf d),QG7]) (QAE d E L k')=(some ((QGx L)++([(L.1:Int)=(L.1:Int),i64.wrap ((k:Int)+1)=(k':Int)]++wbJ d)++(QGn E d)++(QHg L d))):=by kernel_rfl
theorem Qjq(L:Rc Pt):QF 112 [.slz 1 0 L.1 (Cap.lit L.3)] ([(ZZ d),(201,.mp E.1 E.2),(jC L),(Xf d),ZU]) (QDF L)=(some [0=0,L.1=L.1,Cap.lit L.3=Cap.lit L.3,L.1<=L.1,QB 3 L.1 (λi=>QA.enc (L.2 i)) λi=>QA.enc (L.2 i)]):=by kernel_rfl
def Y5:Rw Pt:=⟨0,λ_=>⟨0,⟨0,0⟩⟩⟩
def ZW(d:Puz)(E:ECt)(v:Bool):Tab:=Qa (Qa QT 60 (KM pb (nbU d E))) 53 (KM pb (hsU d E (.of 0) Y5 v))
abbrev QHt(L:Rc Pt)(X1 X2:List (Prop×Ex×JSt)):Code->St->(Ex->St->QC)->QC:=QMH [(7,JT (d.ok=true) (KC 112 [200,201] (QA8 d E L 0) X1)),(18,JT (d.ok=true) (KC 112 [200,201] (QAE d E L 0) X2))]
abbrev QFT(P:Program)(pb:List Prop->Bool)(d:Puz)(E:ECt)(L:Rc Pt)(v:Bool)(X1 X2:List (Prop×Ex×JSt)):Hnd:={ hnd (mkE P (ZW pb d E v)) 8 with loop:=QHt d E L X1 X2 }
theorem QPp(d:Puz)(E:ECt)(L:Rc Pt)(v:Bool)(A1 B1 A2 B2:Prop)(e1 n2:Int):Kd (mkE prog (ZW pb d E v)) (QFT prog pb d E L v [(A1,.ret,YA 0 e1),(B1,.exit 1,QEE d E L)] [(A2,.ret,YA n2 0),(B2,.exit 4,QDF L)]) f19 (Qb.vals 0 ((d,L,()):Puz×Rc Pt×Unit)) (Qb.blks 0 ((d,L,()):Puz×Rc Pt×Unit)) 112 = .need (decide (d.ps.n<=d.ps.n)&&true&&decide (d.ps.n<=1000)) (.br (!d.ok) (.leaf (.tup [vj 0,vj 1]) ([])) (.need (pb ((waa d++([cO=cO]++wad d)))) (.br (decide ((L.1:Int)>20)) (.leaf (.tup [vj 0,vj 3]) ([])) (.ak ([d.ok=true,0=0,L.1=L.1,Cap.lit L.3=Cap.lit L.3,0=0,0=0,0=0,0=0,0=0,L.1=L.1,Cap.lit L.3=Cap.lit L.3,(L.1:Int)=(L.1:Int),(0:Int)=0]++waa d++[cO=cO,0=0,E.1=E.1,E.2=E.2,0=0]++waa d++([cO=cO]++wad d++[L.1<=L.1,QB 3 L.1 (λi=>QA.enc ((d,L,()).snd.fst.2 i)) λi=>QA.enc (L.2 i)])) (.both (.asm (A1) (.all (λ(g0:Nat->Value)=>.leaf (.tup [vi 0,vi e1]) ([])))) (.asm (B1) (.all (λ(g1:Nat->Value)=>.need (pb (([0=0,0=0,0=0]++waa d++(((wbS E)++wam++[0=0])++wad d)))) (.br (!v) (.leaf (.tup [vj 0, vj 4]) ([])) (.ak ([d.ok=true,0=0,L.1=L.1,Cap.lit L.3=Cap.lit L.3,0=0,0=0,(L.1:Int)=(L.1:Int),(0:Int)=0]++waa d++(((wbS E)++wam)++wad d++[L.1<=L.1,QB 3 L.1 (λi=>QA.enc (L.2 i)) λi=>QA.enc (L.2 i)])) (.both (.asm (A2) (.all (λ(g2:Nat->Value)=>.leaf (.tup [vi n2,vi 0]) ([])))) (.asm (B2) (.all (λ(g3:Nat->Value)=>.leaf (.tup [vi (L.1:Int),vj 0]) ([]))))))))))))))):=by kernel_rfl
theorem Qey:QF 112 [(AV.tup [vj (0:Int),vj (1:Int)])] ([]) (KW 112 (YS n e) [])=( some [(0:Int)=n,(1:Int)=e]):=by kernel_rfl
theorem QWD:QF 112 [(AV.tup [vj (0:Int),vj (3:Int)])] ([]) (KW 112 (YS n e) [])=( some [(0:Int)=n,(3:Int)=e]):=by kernel_rfl
theorem QjR(e1 n e:Int):QF 112 [(AV.tup [vi (0:Int),vi e1])] ([]) (KW 112 (YS n e) [])=( some [(0:Int)=n,e1=e]):=by kernel_rfl
theorem QbG:QF 112 [(AV.tup [vj (0:Int),vj (4:Int)])] ([]) (KW 112 (YS n e) [])=( some [(0:Int)=n,(4:Int)=e]):=by kernel_rfl
theorem QcQ(n2 n e:Int):QF 112 [(AV.tup [vi n2,vi (0:Int)])] ([]) (KW 112 (YS n e) [])=( some [n2=n,(0:Int)=e]):=by kernel_rfl
theorem Qfp(L:Rc Pt)(n e:Int):QF 112 [(AV.tup [vi (↑L.1:Int),vj (0:Int)])] ([]) (KW 112 (YS n e) [])=( some [(↑L.1:Int)=n,(0:Int)=e]):=by kernel_rfl
def YR:Bool:=Qz x.cell 0 (i64.wrap ((d.ps.n:Int)-1))&&(Qz x.lay.piece 0 (i64.wrap ((d.ps.n:Int)-1))&&Qz x.lay.turn 0 (i64.wrap (tnV d x.lay.piece-1)))
def QFv:Bool:=decide (Ku (XE ⟨k,get⟩ (get k))≥0)
def J4:Bool := !YR d (get k)||QFv get k
def YQ:Int:=cond (YR d (get k)) 5 2
open Classical in
noncomputable def QDL:List Prop->Bool:=if k<=1000 then QQ else λ_=>false
noncomputable def jK(P:Program)(d:Puz)(L:Rc Pt)(k:Nat):Env:=mkE P (QKP (QDL k) d L k (Ku (XE ⟨k,L.get⟩ (L.get k))))
theorem QLX(L:Rc Pt)(k:Nat):(jK prog d L k).Sound:=by
 unfold jK QDL
 by_cases h:k<=1000
 .rw[if_pos h];exact QO ((Qh.add (X6 d 0 _)).add (QVM (.lit L.c) ⟨k,L.get⟩ (L.get k) h))
 .rw[if_neg h];exact QO ((Qh.add (Jr (by kernel_rfl) _)).add (Jr (by kernel_rfl) _))
def ju(L:Rc Pt)(k:Nat)(e:Ex)(J:JSt):Prop:=match QP (J4 d L.get) (L.n-k) k with
 | some i=>e = .ret/\J=YA 0 (YQ d L.get i)
 | none=>e = .exit 1/\J=QEE d E L
theorem Qak(L:Rc Pt)(hn:L.n<=1000)(hc:L.n<=L.c):JW (QA8 d E L) (λk=>k<=L.n) (λk=>L.n-k) (ju d E L) 112 QLO [200,201] (jK prog d L) (λk=>hnd (jK prog d L k) 2) (QH f19 0):=by
 refine⟨λk g0 hk=>?_⟩;have hk:k<=L.n:=hk;have hk1:k<=1000:=Nat.le_trans hk hn;have hpb:QDL k=QQ:=by unfold QDL;rw[if_pos hk1]
 have hit:∀(_:k<L.n) (e:Int),J4 d L.get k=true->YQ d L.get k=e->ju d E L k .ret (YA 0 e):=by
  intro h e hb he;unfold ju;rw[(JK h).1 hb];exact⟨rfl,by rw[he]⟩
 unfold jK;rw[hpb];have et:=Qgy QQ d E L k (Ku (XE ⟨k,L.get⟩ (L.get k))) g0;refine Qf et ?_;clear et;refine QE (λb0=>?_) (λb0=>?_);have h:k<L.n:=by have:=qdt b0;omega
 have hf:=JK (p:=J4 d L.get) h
 iterate 3 (refine QG ?_ ?_;rotate_left)
 refine QE (λb1=>?_) (λb1=>?_);have hp:YR d (L.get k)=false:=by unfold YR;rw[show Qz (L.get k).cell 0 (i64.wrap ((d.ps.n:Int)-1))=false by simpa using b1];rfl
 refine⟨_,hit h 2 (by unfold J4;rw[hp];rfl) (by unfold YQ;rw[hp];rfl),rfl,rfl,_,Qbd d E 0 2,?_⟩
 rotate_left
 refine QG ?_ ?_;rotate_left;refine QE (λb2=>?_) (λb2=>?_);have hp:YR d (L.get k)=false:=by unfold YR;rw[show Qz (L.get k).lay.piece 0 (i64.wrap ((d.ps.n:Int)-1))=false by simpa using b2];simp
 refine⟨_,hit h 2 (by unfold J4;rw[hp];rfl) (by unfold YQ;rw[hp];rfl),rfl,rfl,_,Qgh d E 0 2,?_⟩
 rotate_left
 iterate 2 (refine QG ?_ ?_;rotate_left)
 refine QE (λb3=>?_) (λb3=>?_);have hp:YR d (L.get k)=false:=by unfold YR;rw[show Qz (L.get k).lay.turn 0 (i64.wrap (tnV d (L.get k).lay.piece-1))=false by simpa using b3];simp
 refine⟨_,hit h 2 (by unfold J4;rw[hp];rfl) (by unfold YQ;rw[hp];rfl),rfl,rfl,_,QWe d E 0 2,?_⟩
 rotate_left
 iterate 2 (refine QG ?_ ?_;rotate_left)
 refine QE (λb4=>?_) (λb4=>?_);have hp:YR d (L.get k)=true:=by unfold YR;rw[show Qz (L.get k).cell 0 (i64.wrap ((d.ps.n:Int)-1))=true by simpa using b1,show Qz (L.get k).lay.piece 0 (i64.wrap ((d.ps.n:Int)-1))=true by simpa using b2,show Qz (L.get k).lay.turn 0 (i64.wrap (tnV d (L.get k).lay.piece-1))=true by simpa using b3];rfl
 have hd:QFv L.get k=true:=b4;refine⟨_,hit h 5 (by unfold J4;rw[hd];simp) (by unfold YQ;rw[hp];rfl),rfl,rfl,_,QgD d E 0 5,?_⟩
 rotate_left
 have hp:YR d (L.get k)=true:=by unfold YR;rw[show Qz (L.get k).cell 0 (i64.wrap ((d.ps.n:Int)-1))=true by simpa using b1,show Qz (L.get k).lay.piece 0 (i64.wrap ((d.ps.n:Int)-1))=true by simpa using b2,show Qz (L.get k).lay.turn 0 (i64.wrap (tnV d (L.get k).lay.piece-1))=true by simpa using b3];rfl
 have hd:QFv L.get k=false:=b4;have hb:J4 d L.get k=false:=by unfold J4;rw[hp,hd];rfl
 refine⟨k+1,h,by show L.n-(k+1)<L.n-k;omega,λe J h=>by unfold ju at h ⊢;rw[hf.2 hb];exact h,rfl,rfl,_,Qf4 d E L k (k+1),?_⟩
 rotate_left
 have h:L.n<=k:=by have:=qdf b0;omega
 refine⟨_,(by unfold ju;rw[show L.n-k=0 by omega];exact⟨rfl,rfl⟩),rfl,rfl,_,Qe0 d E L,?_⟩
 rotate_left
 all_goals first|((with_reducible show _=true);(first|rfl|(refine KI.2 ?_;repeat' first|with_reducible refine QL ?_ ?_|exact tv|with_reducible exact qRr|exact rfl|(show k<=L.n;omega)|refine aI ?_ ?_)|(simp;done)|(simp;omega)))|(repeat' first|exact tv|with_reducible refine QL ?_ ?_|exact qlr _|with_reducible exact qRr|exact Ja h hn|exact rfl|refine aI ?_ ?_)
def QAt:Rw Pt:=⟨k+1,get⟩
def XV(get:Nat->Pt)(k:Nat):Bool := !hsV d E (Qx (QAt get k))
open Classical in
noncomputable def jH(P:Program)(d:Puz)(E:ECt)(L:Rc Pt)(k:Nat):Env:=mkE P (QFx (if k<1000 then QQ else λ_=>false) d E (.lit L.c) (QAt L.get k) (hsV d E (Qx (QAt L.get k))))
theorem QN5{d:Puz}{E:ECt}(hd:KO d)(hE:WfE E)(L:Rc Pt)(k:Nat):(jH prog d E L k).Sound:=by
 unfold jH
 by_cases h:k<1000
 .rw[if_pos h];exact QO (Qh.add (QKH (.lit L.c) hd hE (show k+1<=1000 by omega)))
 .rw[if_neg h];exact QO (Qh.add (Jr (by kernel_rfl) _))
def zx(L:Rc Pt)(k:Nat)(e:Ex)(J:JSt):Prop:=match QP (XV d E L.get) (L.n-k) k with
 | some i=>e = .ret/\J=YA i 0
 | none=>e = .exit 4/\J=QDF L
theorem QZy(L:Rc Pt)(hn:L.n<=1000)(hc:L.n<=L.c):JW (QAE d E L) (λk=>k<=L.n) (λk=>L.n-k) (zx d E L) 112 QRO [200,201] (jH prog d E L) (λk=>hnd (jH prog d E L k) 0) (QH f19 1):=by
 refine⟨λk g0 hk=>?_⟩;have hk:k<=L.n:=hk;unfold jH;have et:=QWn (if k<1000 then QQ else λ_=>false) d E L (QAt L.get k) k (hsV d E (Qx (QAt L.get k))) g0
 refine Qf et ?_;clear et;refine QE (λb0=>?_) (λb0=>?_);have h:k<L.n:=by have:=qdt b0;omega
 have hf:=JK (p:=XV d E L.get) h;have hw:=Ja h hn;have hw2:(i64.wrap ((k:Int)+1)).toNat=k+1:=by rw[hw];exact Int.toNat_natCast _
 rw[if_pos (show k<1000 by omega)]
 iterate 2 (refine QG ?_ ?_;rotate_left)
 refine QE (λb1=>?_) (λb1=>?_);have hb:XV d E L.get k=true:=b1;refine⟨_,(by unfold zx;rw[hf.1 hb];exact⟨rfl,rfl⟩),rfl,rfl,_,Qen d E k k 0,?_⟩
 rotate_left
 have hb:XV d E L.get k=false:=b1;refine⟨k+1,h,by show L.n-(k+1)<L.n-k;omega,λe J h=>by unfold zx at h ⊢;rw[hf.2 hb];exact h,rfl,rfl,_,QgU d E L k (k+1),?_⟩
 rotate_left
 have h:L.n<=k:=by have:=qdf b0;omega
 refine⟨_,(by unfold zx;rw[show L.n-k=0 by omega];exact⟨rfl,rfl⟩),rfl,rfl,_,Qjq d E L,?_⟩
 rotate_left
 all_goals first|((with_reducible show _=true);(first|(rw[hw];simp;omega)|(refine KI.2 ?_;repeat' first|with_reducible refine QL ?_ ?_|exact tv|with_reducible exact qRr|exact qRr|exact hw2|exact hw2.symm|exact Nat.le_of_eq hw2|exact Nat.le_of_eq hw2.symm|exact rfl|(show k+1<=L.n;omega)|refine aI ?_ ?_)))|(repeat' first|exact tv|with_reducible refine QL ?_ ?_|exact qlr _|with_reducible exact qRr|exact hw|exact rfl|refine aI ?_ ?_)
def zL(get:Nat->Pt)(n:Nat):Int:=match QP (XV d E get) n 0 with
 | some i=>i
 | none=>n
def QaC(get:Nat->Pt)(n:Nat):Int×Int:=match QP (J4 d get) n 0 with
 | some i=>(0,YQ d get i)
 | none=>cond (hsV d E (Qx Y5)) (zL d E get n,0) (0,4)
def HC(n:Nat):Int×Int:=cond d.ok (cond (decide ((n:Int)>20)) (0,3) (QaC d (QK d) get n)) (0,1)
def Vm:WF (Puz×Rc Pt×Unit):=λ|(d,L,_)=>(decide (d.ps.n<=1000/\L.n<=1000/\L.n<=L.c),YS (HC d L.get L.n).1 (HC d L.get L.n).2,[])
def QPs:FC:=wFC Vm
theorem QOE(L:Rc Pt):WOk (Vm (d,L,())).2.1 (Vm (d,L,())).2.2:=⟨rfl,by simp[Vm],rfl⟩
def jW(L:Rc Pt):List (Prop×Ex×JSt):=[((QP (J4 d L.get) L.n 0).isSome=true,.ret,YA 0 (YQ d L.get ((QP (J4 d L.get) L.n 0).getD 0))),(QP (J4 d L.get) L.n 0=none,.exit 1,QEE d E L)]
def je(L:Rc Pt):List (Prop×Ex×JSt):=[((QP (XV d E L.get) L.n 0).isSome=true,.ret,YA (((QP (XV d E L.get) L.n 0).getD 0:Nat):Int) 0),(QP (XV d E L.get) L.n 0=none,.exit 4,QDF L)]
theorem QZe:K5 (Qk f19)=[.loop (QH f19 0),.loop (QH f19 1)]:=by kernel_rfl
theorem QSo(L:Rc Pt)(pb:List Prop->Bool)(v:Bool)(hT:Qc (ZW pb d (QK d) v))(hn:L.n<=1000)(hc:L.n<=L.c)(G:Ctx)(hrd:G.rd=none)(hG:G.n=112):Qw (mkE prog (ZW pb d (QK d) v)) G (QFT prog pb d (QK d) L v (jW d (QK d) L) (je d (QK d) L)) (Qk f19):=by
 refine QTq (QO hT) hrd ?_;rw[QZe];intro s hs;simp only[List.mem_cons,List.not_mem_nil,or_false]at hs;rcases hs with rfl|rfl
 .have e:QHt d (QK d) L (jW d (QK d) L) (je d (QK d) L) (.loop (QH f19 0))=JT (d.ok=true) (KC 112 [200,201] (QA8 d (QK d) L 0) (jW d (QK d) L)):=by kernel_rfl
  rw[e];refine Jh λho=>?_;refine Jo (E0:=mkE prog (ZW pb d (QK d) v)) (E:=jK prog d L) (H:=λk=>hnd (jK prog d L k) 2) (n0:=112) (s0:=0) (λ_=>rfl) (QLX d L) (by omega) (λk _=>Qv (QLX d L k) 2 G _ hrd) (λk _=>(by decide:112<=400)) ?_ (Qak d (QK d) L hn hc) (Nat.zero_le _) ?_
  .intro k e J h;unfold ju at h;split at h<;>(rw[h.2];exact(by decide:112<=400))
  .intro e J h;unfold ju at h;rw[Nat.sub_zero]at h;unfold jW;cases hf:QP (J4 d L.get) L.n 0 with
   | some i=>rw[hf]at h;exact⟨_,qmc,rfl,h.1.symm,h.2.symm⟩
   | none=>rw[hf]at h;exact⟨_,List.mem_cons_of_mem _ qmc,rfl,h.1.symm,h.2.symm⟩
 .have e:QHt d (QK d) L (jW d (QK d) L) (je d (QK d) L) (.loop (QH f19 1))=JT (d.ok=true) (KC 112 [200,201] (QAE d (QK d) L 0) (je d (QK d) L)):=by kernel_rfl
  rw[e];refine Jh λho=>?_;have hd:=(ZA (Y4 ho)).1;have hE:=(Y1 d hd.n).w;refine Jo (E0:=mkE prog (ZW pb d (QK d) v)) (E:=jH prog d (QK d) L) (H:=λk=>hnd (jH prog d (QK d) L k) 0) (n0:=112) (s0:=0) (λ_=>rfl) (QN5 hd hE L) (by omega) (λk _=>Qv (QN5 hd hE L k) 0 G _ hrd) (λk _=>(by decide:112<=400)) ?_ (QZy d (QK d) L hn hc) (Nat.zero_le _) ?_
  .intro k e J h;unfold zx at h;split at h<;>(rw[h.2];exact(by decide:112<=400))
  .intro e J h;unfold zx at h;rw[Nat.sub_zero]at h;unfold je;cases hf:QP (XV d (QK d) L.get) L.n 0 with
   | some i=>rw[hf]at h;exact⟨_,qmc,rfl,h.1.symm,h.2.symm⟩
   | none=>rw[hf]at h;exact⟨_,List.mem_cons_of_mem _ qmc,rfl,h.1.symm,h.2.symm⟩
theorem Qcr(L:Rc Pt)(hx:(Vm (d,L,())).1=true)(ho:d.ok=false):QR prog 19 (wFC (VY Vm (d,L,()))):=by
 obtain⟨hn,hl,hc⟩:=qdt hx;have hT:Qc (ZW (λ_=>false) d (QK d) false):=(Qh.add (Jr (by kernel_rfl) _)).add (Jr (by kernel_rfl) _)
 refine Yu (c:=Qk f19) (E:=mkE prog (ZW (λ_=>false) d (QK d) false)) (H:=QFT prog (λ_=>false) d (QK d) L false (jW d (QK d) L) (je d (QK d) L)) (QO hT) func19 (by kernel_rfl) (by kernel_rfl) (N:=112) (by decide) (d,L,()) (λG h1 h2=>QSo d L _ _ hT hl hc G h1 h2) (QOE d L) ?_
 have hv:HC d L.get L.n=(0,1):=by simp only[HC,ho,cond_false]
 refine Qf (QPp (λ_=>false) d (QK d) L false _ _ _ _ _ _) ?_;refine QG (by simp;omega) (QE (λ_=>?_) (λh=>by rw[ho]at h;cases h))
 simp only[Vm,hv];refine⟨rfl,rfl,_,Qey 0 1,?_⟩
 repeat' first|with_reducible refine QL ?_ ?_|exact tv|with_reducible exact qRr|exact rfl|refine aI ?_ ?_
theorem Qi4(L:Rc Pt)(hx:(Vm (d,L,())).1=true)(ho:d.ok=true):QR prog 19 (wFC (VY Vm (d,L,()))):=by
 obtain⟨hn,hl,hc⟩:=qdt hx;have hd:=(ZA (Y4 ho)).1;have hE:=(Y1 d hd.n).w;have hT:Qc (ZW QQ d (QK d) (hsV d (QK d) (Qx Y5))):=(Qh.add (Zn d (by omega))).add (QKH (.of 0) hd hE (show(0:Nat)<=1000 by decide))
 refine Yu (c:=Qk f19) (E:=mkE prog (ZW QQ d (QK d) (hsV d (QK d) (Qx Y5)))) (H:=QFT prog QQ d (QK d) L (hsV d (QK d) (Qx Y5)) (jW d (QK d) L) (je d (QK d) L)) (QO hT) func19 (by kernel_rfl) (by kernel_rfl) (N:=112) (by decide) (d,L,()) (λG h1 h2=>QSo d L _ _ hT hl hc G h1 h2) (QOE d L) ?_
 have hv:HC d L.get L.n=cond (decide ((L.n:Int)>20)) (0,3) (match QP (J4 d L.get) L.n 0 with
   | some i=>(0,YQ d L.get i)
   | none=>cond (hsV d (QK d) (Qx Y5)) (zL d (QK d) L.get L.n,0) (0,4)):=by simp only[HC,ho,cond_true];rfl
 have et:=QPp QQ d (QK d) L (hsV d (QK d) (Qx Y5)) ((QP (J4 d L.get) L.n 0).isSome=true) (QP (J4 d L.get) L.n 0=none) ((QP (XV d (QK d) L.get) L.n 0).isSome=true) (QP (XV d (QK d) L.get) L.n 0=none) (YQ d L.get ((QP (J4 d L.get) L.n 0).getD 0)) (((QP (XV d (QK d) L.get) L.n 0).getD 0:Nat):Int);refine Qf et ?_;clear et;refine QG ?_ ?_;rotate_left;refine QE ?_ ?_<;>intro b0
 .rw[ho]at b0;cases b0
 refine QG ?_ ?_;rotate_left;refine QE (λb1=>?_) (λb1=>?_);rw[show decide ((L.n:Int)>20)=true from b1,cond_true]at hv;simp only[Vm,hv];refine⟨rfl,rfl,_,QWD 0 3,?_⟩
 rotate_left
 iterate 43 refine Qu (by first|exact tv|exact ho|with_reducible exact qRr|exact rfl) ?_
 refine Kh ?_ ?_;refine Qg λa0=>?_;refine Qj λg0=>?_
 .rw[show decide ((L.n:Int)>20)=false from b1,cond_false]at hv;cases hf:QP (J4 d L.get) L.n 0 with
  | none=>rw[hf]at a0;cases a0
  | some i=>
  rw[hf]at hv;simp only[Vm,hv];refine⟨rfl,rfl,_,QjR (YQ d L.get i) 0 (YQ d L.get i),?_⟩
  repeat' first|with_reducible refine QL ?_ ?_|exact tv|with_reducible exact qRr|exact rfl|refine aI ?_ ?_
 refine Qg λa1=>?_;refine Qj λg1=>?_;refine QG ?_ ?_;rotate_left;refine QE (λb2=>?_) (λb2=>?_);rw[show decide ((L.n:Int)>20)=false from b1,cond_false,a1]at hv;simp only[show hsV d (QK d) (Qx Y5)=false by simpa using b2,cond_false]at hv
 simp only[Vm,hv];refine⟨rfl,rfl,_,QbG 0 4,?_⟩
 rotate_left
 iterate 30 refine Qu (by first|exact tv|exact ho|with_reducible exact qRr|exact rfl) ?_
 refine Kh ?_ ?_;refine Qg λa2=>?_;refine Qj λg2=>?_
 .rw[show decide ((L.n:Int)>20)=false from b1,cond_false,a1]at hv;simp only[show hsV d (QK d) (Qx Y5)=true by simpa using b2,cond_true]at hv
  cases hf:QP (XV d (QK d) L.get) L.n 0 with
  | none=>rw[hf]at a2;cases a2
  | some i=>
  rw[show zL d (QK d) L.get L.n=i by unfold zL;rw[hf]]at hv
  simp only[Vm,hv];refine⟨rfl,rfl,_,QcQ i i 0,?_⟩
  repeat' first|with_reducible refine QL ?_ ?_|exact tv|with_reducible exact qRr|exact rfl|refine aI ?_ ?_
 refine Qg λa3=>?_;refine Qj λg3=>?_;rw[show decide ((L.n:Int)>20)=false from b1,cond_false,a1]at hv;simp only[show hsV d (QK d) (Qx Y5)=true by simpa using b2,cond_true]at hv
 rw[show zL d (QK d) L.get L.n=L.n by unfold zL;rw[a3]]at hv
 simp only[Vm,hv];refine⟨rfl,rfl,_,Qfp L L.n 0,?_⟩
 rotate_left
 all_goals first|((with_reducible show _=true);(first|(simp;done)|(refine KI.2 ?_;repeat' first|with_reducible refine QL ?_ ?_|exact tv|with_reducible exact qRr|exact rfl|refine aI ?_ ?_)|(simp;omega)))|(repeat' first|with_reducible refine QL ?_ ?_|exact tv|with_reducible exact qRr|exact rfl|refine aI ?_ ?_)
theorem QWf(L:Rc Pt)(hx:(Vm (d,L,())).1=true):QR prog 19 (wFC (VY Vm (d,L,()))):=by
 cases ho:d.ok with
 | false=>exact Qcr d L hx ho
 | true=>exact Qi4 d L hx ho
theorem QV1:QR prog 19 QPs:=Gc (by kernel_rfl) λ|(d,L,()),hx=>QWf d L hx
