/- - -/
import Derived.Test.YtekbmehgcofnkaaGreatKzf
set_option linter.all false
noncomputable section
open Go.Proofs.Tryz
open Go.IntKind (i64)
set_option maxRecDepth 100000
namespace Go.Proofs.YtekbmehgcofnkaaGreat
open Go.SX Go.SX.Told
variable (d:Puz)(pb:List Prop->Bool)(n e:Int)
def vJ(d:Puz)(E:ECt):Tab:=Qa QS 60 (KE pb (nbU d E))
abbrev whH(P:Program)(pb:List Prop->Bool)(d:Puz)(E:ECt)(p:Int)(X:List (Prop×Ex×JSt)):Hnd:={ hnd (mkE P (vJ pb d E)) 8 with loop:=λ_=>Kr (d.ok=true) (Q4 112 [200,201] (Yt d E p 0 (0:Nat)) X) }
def Xe:AV := .tup [.int false .i64 n,.int false .i64 e]
theorem QeJ(d:Puz)(E:ECt)(p cells':Int):Kl (mkE prog (vJ pb d E)) (whH prog pb d E p [(True,.exit 1,Gw cells')]) f17 (Qd.vals 0 ((d,p,()):Puz×Int×Unit)) (Qd.blks 0 ((d,p,()):Puz×Int×Unit)) 112 = .need (decide (d.ps.n<=d.ps.n)&&true&&decide (d.ps.n<=1000)) (.br (!d.ok) (.leaf (.tup [vj 0,vj 1]) ([])) (.need (pb ((waa d++([cO=cO]++wad d)))) (.need (true) (.br (!Qy p (0:Int) (i64.wrap ((d.ps.n:Int)-1))) (.leaf (.tup [vj 0,vj 2]) ([])) (.ak ([d.ok=true,p=p,(0:Int)=0,0=0,0=0,(d.ps.n:Int)=(d.ps.n:Int),(0:Int)=0]++waa d++([cO=cO,0=0,E.1=E.1,E.2=E.2,0=0]++wad d)) (.asm (True) (.all (λ(g0:Nat->Value)=>.br (cells'==0) (.leaf (.tup [vj 0,vj 4]) ([])) (.leaf (.tup [vi cells',vj 0]) ([])))))))))):=by kernel_rfl
theorem QeR:QE 112 [(AV.tup [vj (0:Int),vj (1:Int)])] ([]) (KP 112 (Xe n e) [])=( some [(0:Int)=n,(1:Int)=e]):=by kernel_rfl
theorem QZj:QE 112 [(AV.tup [vj (0:Int),vj (2:Int)])] ([]) (KP 112 (Xe n e) [])=( some [(0:Int)=n,(2:Int)=e]):=by kernel_rfl
theorem QeC:QE 112 [(AV.tup [vj (0:Int),vj (4:Int)])] ([]) (KP 112 (Xe n e) [])=( some [(0:Int)=n,(4:Int)=e]):=by kernel_rfl
theorem QfR(cells' n e:Int):QE 112 [(AV.tup [vi cells',vj (0:Int)])] ([]) (KP 112 (Xe n e) [])=( some [cells'=n,(0:Int)=e]):=by kernel_rfl
def QDQ(p:Int):Int×Int:=cond d.ok
 (cond (Qy p 0 (i64.wrap ((d.ps.n:Int)-1))) (cond (We d (QK d) p==0) (0,4) (We d (QK d) p,0)) (0,2)) (0,1)
def ZH:WF (Puz×Int×Unit):=λ|(d,p,_)=>(decide (d.ps.n<=1000),Xe (QDQ d p).1 (QDQ d p).2,[])
def QG4:FC:=wFC ZH
theorem QdT(p:Int):WOk (ZH (d,p,())).2.1 (ZH (d,p,())).2.2:=⟨rfl,by simp[ZH],rfl⟩
theorem Qe5(p:Int)(hn:d.ps.n<=1000)(G:Ctx)(hrd:G.rd=none)(hG:G.n=112):Qx (mkE prog (vJ QP d (QK d))) G (whH prog QP d (QK d) p [(True,.exit 1,Gw (We d (QK d) p))]) (Qk f17):=by
 have hT:Qc (vJ QP d (QK d)):=Qb.add (Zw d (by omega))
 refine KR (body:=QH f17 0) (QN hT) hrd (by kernel_rfl) ?_
 refine JK λho=>?_;have hd:=(qi (jb ho)).1;have hT1:Qc (WJ QP d p):=Qb.add (YP d 0 p);refine Jp (E0:=mkE prog (vJ QP d (QK d))) (E:=λ_:Nat×Int=>mkE prog (WJ QP d p)) (H:=λk=>QEi prog QP d (QK d) p k.2 k.1 [(True,.exit 3,Yt d (QK d) p (ZQ d (QK d) p k.2 k.1) k.1)]) (n0:=112) (s0:=(0,0)) (λ_=>rfl) (λ_=>QN hT1) (by omega) (λk _=>QV6 hd (Ze d hn).w p k.2 k.1 G hrd (by omega)) (λk _=>(by decide:112<=400)) ?_ (Qcm d (QK d) p hn) (Nat.zero_le _) ?_
 .rintro k e J ⟨_,rfl⟩;exact(by decide:112<=400)
 .rintro e J ⟨rfl,rfl⟩;exact⟨_,qmc,trivial,rfl,rfl⟩
theorem QXB(p:Int)(hx:(ZH (d,p,())).1=true):QR prog 17 (wFC (VF ZH (d,p,()))):=by
 have hn:d.ps.n<=1000:=qdt hx;have hT:Qc (vJ QP d (QK d)):=Qb.add (Zw d (by omega))
 refine YY (c:=Qk f17) (E:=mkE prog (vJ QP d (QK d))) (H:=whH prog QP d (QK d) p [(True,.exit 1,Gw (We d (QK d) p))]) (QN hT) func17 (by kernel_rfl) (by kernel_rfl) (N:=112) (by decide) (d,p,()) (λG h1 h2=>Qe5 d p hn G h1 h2) (QdT d p) ?_
 have hv:QDQ d p=cond d.ok (cond (Qy p 0 (i64.wrap ((d.ps.n:Int)-1))) (cond (We d (QK d) p==0) (0,4) (We d (QK d) p,0)) (0,2)) (0,1):=rfl;have et:=QeJ QP d (QK d) p (We d (QK d) p);generalize We d (QK d) p=W at et hv ⊢;refine Qe et ?_;clear et;refine QG ?_ ?_;rotate_left;refine QF (λb0=>?_) (λb0=>?_);have ho:d.ok=false:=by simpa using b0
 rw[ho,cond_false]at hv;simp only[ZH,hv];refine⟨rfl,rfl,_,QeR 0 1,?_⟩
 rotate_left
 have ho:d.ok=true:=by simpa using b0
 iterate 2 (refine QG ?_ ?_;rotate_left)
 refine QF (λb1=>?_) (λb1=>?_);have hw:Qy p 0 (i64.wrap ((d.ps.n:Int)-1))=false:=by simpa using b1
 rw[ho,hw,cond_true,cond_false]at hv;simp only[ZH,hv];refine⟨rfl,rfl,_,QZj 0 2,?_⟩
 rotate_left
 iterate 24 refine Qp (by first|exact tv|exact ho|with_reducible exact qRr|exact rfl) ?_
 refine Qf λa0=>?_;refine Qh λg0=>?_;refine QF (λb2=>?_) (λb2=>?_);have hw:Qy p 0 (i64.wrap ((d.ps.n:Int)-1))=true:=by simpa using b1
 rw[ho,hw,cond_true,cond_true,show(W==0)=true from b2,cond_true]at hv;simp only[ZH,hv];refine⟨rfl,rfl,_,QeC 0 4,?_⟩
 rotate_left
 have hw:Qy p 0 (i64.wrap ((d.ps.n:Int)-1))=true:=by simpa using b1
 rw[ho,hw,cond_true,cond_true,show(W==0)=false from b2,cond_false]at hv;simp only[ZH,hv];refine⟨rfl,rfl,_,QfR W W 0,?_⟩
 rotate_left
 all_goals first|((with_reducible show _=true);(first|(simp;done)|(refine Q7.2 ?_;repeat' first|with_reducible refine QO ?_ ?_|exact tv|with_reducible exact qRr|exact rfl|refine aI ?_ ?_)|(simp;omega)))|(repeat' first|with_reducible refine QO ?_ ?_|exact tv|with_reducible exact qRr|exact rfl|refine aI ?_ ?_)
theorem QO8:QR prog 17 QG4:=GP (by kernel_rfl) λ|(d,p,()),hx=>QXB d p hx
end Go.Proofs.YtekbmehgcofnkaaGreat
namespace Go.SX
open Go Go.RowKit Go.Proofs.YtekbmehgcofnkaaGreat
structure Rc (α:Type) where
 n:Nat
 get:Nat->α
 c:Nat
def Rc.rw{α:Type}(x:Rc α):Rw α:=⟨x.n,x.get⟩
def QHC:AV->Option Nat
 | .slz _ _ _ (.lit c)=>some c
 | .slice _ _ _ _ (.lit c)=>some c
 | .nils=>some 0
 | _=>none
theorem Qas{ks:List CK}{v:AV}{c:Nat}(hc:QHC v=some c){lk:Nat->Option Blk}{p:Bool}{m:Nat}{g g':Nat->Nat->Int}(h:Gp ks v lk=some (p,m,g))(hp:p=true)(hg:∀ i,QW ks g' i=QW ks g i){r:Nat->Loc}{w:World}(hb:∀ id b,lk id=some b->QM r id w b):
  ∃ l:Loc,∀(k:Nat) (r':Nat->Loc),r' k=l->(AV.slz k 0 m (.lit c)).den r'=v.den r/\QM r' k w (.frz ks m g'):=by
 have main:((∃ id e n,v = .slz id e n (.lit c))->∀ id e n,v = .slz id e n (.lit c)->(r id).nil=false)->∃ l:Loc,∀(k:Nat) (r':Nat->Loc),r' k=l->(AV.slz k 0 m (.lit c)).den r'=v.den r/\QM r' k w (.frz ks m g'):=by
  intro hnn;obtain⟨l,hl⟩:=QRU h hp hg hb;refine⟨l,λk r' hr=>⟨?_,(hl k r' hr).2⟩⟩;have hd:=(hl k r' hr).1;unfold QHC at hc;split at hc<;>(try (cases hc;done))
  .simp only[qsI]at hc;subst hc;rename_i id e n c;have hn:=hnn ⟨_,_,_,rfl⟩ id e n rfl;rw[<-hd];simp only[AV.den,Loc.room,hn,Cap.den,Value.slice.injEq]at hd ⊢;obtain⟨_,_,h3⟩:=hd;refine⟨trivial,trivial,?_⟩;cases hk:(r' k).nil with
   | true=>rfl
   | false=>rw[hk]at h3;simp only[Nat.sub_zero]at h3 ⊢;exact h3.symm
  .simp only[qsI]at hc;subst hc;rw[<-hd];simp only[AV.den,Loc.room,Cap.den,Value.slice.injEq]at hd ⊢;obtain⟨_,_,h3⟩:=hd;refine⟨trivial,trivial,?_⟩;cases hk:(r' k).nil with
   | true=>rfl
   | false=>rw[hk]at h3;simp only[Nat.sub_zero]at h3 ⊢;exact h3.symm
  .simp only[qsI]at hc;subst hc;rw[<-hd];simp only[AV.den,Loc.room,Cap.den,Value.slice.injEq]at hd ⊢;obtain⟨_,_,h3⟩:=hd;refine⟨trivial,trivial,?_⟩;cases hk:(r' k).nil with
   | true=>rfl
   | false=>rw[hk]at h3;simp only[Nat.sub_zero]at h3 ⊢;exact h3.symm
 by_cases hv:∃ id e n,v = .slz id e n (.lit c)
 .obtain⟨id,e,n,rfl⟩:=hv;cases hn:(r id).nil with
  | false=>exact main λ_ id' e' n' h'=>by cases h';exact hn
  | true=>
   have fin:∀(N:Nat),(r id).esz=ks.length->(∀ k,(r id).foot k->k<w.heap.size)->m+e<=N->N=0->m=n->∃ l:Loc,∀(k:Nat) (r':Nat->Loc),r' k=l->(AV.slz k 0 m (.lit c)).den r'=(AV.slz id e n (.lit c)).den r/\QM r' k w (.frz ks m g'):=by
    intro N h1 h2 h3 h4 h5;refine⟨r id,λk r' hr=>⟨?_,?_⟩⟩
    .simp only[AV.den,hr,Loc.base,Loc.room,hn,h5]
    .simp only[QM];rw[hr];exact⟨h1,h2,λ_=>by omega,λi hi=>by omega⟩
   unfold Gp at h;simp only at h;split at h<;>(try (cases h;done))
   .rename_i o ty ks' N g0 hlk;split at h<;>(try (cases h;done))
    rename_i hk;have:=Yb hk;subst this;simp only[qsI,qpI]at h;obtain⟨rfl,rfl,rfl⟩:=h;have hbb:=hb _ _ hlk;have hb0:Kh r id w ty ks'.length N (QW ks' g0):=hbb;exact fin N hb0.2.1 (hbb.lt rfl) (qdt hp) (hb0.2.2.2.1 hn) rfl
   .rename_i ks' N g0 hlk;split at h<;>(try (cases h;done))
    rename_i hk;have:=Yb hk;subst this;simp only[qsI,qpI]at h;obtain⟨rfl,rfl,rfl⟩:=h;have hbb:=hb _ _ hlk;exact fin N hbb.1 hbb.2.1 (qdt hp) (hbb.2.2.1 hn) rfl
 .exact main λh=>absurd h hv
instance {α : Type} [QA α] : Qi (Rc α) where
  val k x := .slz k 0 x.n (.lit x.c)
  blk k x := [(k,.frz (QA.ks α) x.n λi=>QA.enc (x.get i))]
  dec v lk := match QHC v,Gp (QA.ks α) v lk with
    | some c,some (p,m,g) => some (p,⟨m,λi=>QA.dec (g i),c⟩)
    | _,_ => none
  ok v lk p x h hp := by
    split at h <;> (try (cases h; done))
    rename_i c p' m g hc hd;simp only[qsI,qpI]at h;obtain⟨rfl,rfl⟩ := h;refine⟨λk=>⟨by simp[AV.all],λq hq=>?_⟩,λr w hb=>?_⟩
    . simp only[List.mem_singleton]at hq; subst hq; exact⟨rfl,rfl,rfl⟩
    . obtain⟨l,hl⟩ := Qas hc (g' := λi=>QA.enc (QA.dec (g i) : α)) hd hp (λi=>QA.ok (g i)) hb
      refine⟨l,λk r' hr=>⟨(hl k r' hr).1,λq hq=>?_⟩⟩;simp only[List.mem_singleton]at hq; subst hq; exact(hl k r' hr).2
end Go.SX
namespace Go.Proofs.YtekbmehgcofnkaaGreat
open Go.SX Go.SX.Told
variable (d:Puz)(C:Cap)(pb:List Prop->Bool)(n e:Int)(L:Rw Pt)(get:Nat->Pt)(E:ECt)(x:Pt)(k:Nat)(v:Int)
def Yw(i:Nat):Bool:=x.cell==(L.get i).cell||x.lay.piece==(L.get i).lay.piece
def ptC:List AV:=[vi x.cell,vi x.lay.piece,vi x.lay.turn]
def piB:List (Nat×Blk):=[(16,.cellsR 0 63 (ptC x))]++Qi.blk 8 L
def piU:UC:=⟨0,⟨2,[(0,.slz 8 0 L.n C),(1,.fn (.func 57) [.ptr 16 0 0])],piB L x,24⟩,λ_=>.int false .i64 v,λ_=>[]⟩
def piJ:JSt:=⟨19,[(0,.slz 8 0 L.n C),(1,.fn (.func 57) [.ptr 16 0 0]),(7,.int false .i64 L.n),(8,.int false .i64 k)],piB L x,24⟩
def Yq(k:Int):JSt:=⟨19,[(4,.int false .i64 k)],[],24⟩
def qL:JSt:=⟨19,[],[],24⟩
def QCI:Ex->List Nat
 | .normal=>[0,1,7,8]
 | .exit _=>[]
 | .ret=>[4]
theorem QZV(g:Nat->Value):exec (mkE prog QS) (hnd (mkE prog QS) 2) (QH f101 0) (JSt.inst (piJ C L x k) g) (Q8 [] QCI)=QC.br (decide ((↑k:Int)<(↑L.n:Int))) (QC.need (decide ((0:Int)<=(↑k:Int)/\(↑k:Int)<(↑L.n:Int))&&decide (L.n<=L.n)) (QC.need (decide (k<L.n)) (QC.br (x.cell==(L.get k).cell) (QC.leaf (AV.tup [AV.nili,AV.ptr (19:Nat) (0:Nat) (0:Nat),vi (↑k:Int)]) ([])) (QC.br (x.lay.piece==(L.get k).lay.piece) (QC.leaf (AV.tup [AV.nili,AV.ptr (19:Nat) (0:Nat) (0:Nat),vi (↑k:Int)]) ([])) (QC.leaf (AV.tup [AV.nilp,AV.ptr (19:Nat) (0:Nat) (0:Nat),AV.slz (8:Nat) (0:Nat) L.n C,AV.fn (Fn.func (57:Nat)) [AV.ptr (16:Nat) (0:Nat) (0:Nat)],vi (↑L.n:Int),vi (i64.wrap ((↑k:Int)+(1:Int)))]) ([((8:Nat),Blk.frz [CK.int i64,CK.int i64,CK.int i64] L.n λi=>QA.enc (L.get i)),((16:Nat), Blk.cellsR (0:Nat) (63:Nat) [vi x.cell,vi x.lay.piece,vi x.lay.turn])])))))) (QC.leaf (AV.tup [AV.ptr (0:Nat) (0:Nat) (0:Nat),AV.ptr (19:Nat) (0:Nat) (0:Nat)]) ([])):=by kernel_rfl
theorem Qa0(j:Int):QE 24 [vi (↑k:Int)] ([]) (Yq j)=( some [(↑k:Int)=j]):=by kernel_rfl
theorem QTd(j:Int):QE 24 [vi (↑k:Int)] ([]) (Yq j)=( some [(↑k:Int)=j]):=by kernel_rfl
theorem QbZ(k k':Nat):QE 24 [AV.slz (8:Nat) (0:Nat) L.n C,AV.fn (Fn.func (57:Nat)) [AV.ptr (16:Nat) (0:Nat) (0:Nat)],vi (↑L.n:Int),vi (i64.wrap ((↑k:Int)+(1:Int)))] ([((8:Nat),Blk.frz [CK.int i64,CK.int i64,CK.int i64] L.n λi=>QA.enc (L.get i)),((16:Nat),Blk.cellsR (0:Nat) (63:Nat) [vi x.cell,vi x.lay.piece,vi x.lay.turn])]) (piJ C L x k')=( some [0=0,L.n=L.n,C=C,Fn.func (57:Nat)=Fn.func (57:FuncId),0=0,0=0,(↑L.n:Int)=(↑L.n:Int), i64.wrap ((↑k:Int)+(1:Int))=(↑k':Int),x.cell=x.cell,x.lay.piece=x.lay.piece,x.lay.turn=x.lay.turn,L.n<=L.n,QB (3:Nat) L.n (λi=>QA.enc (L.get i)) λi=>QA.enc (L.get i)]):=by kernel_rfl
theorem QXY :QE 24 [] ([]) qL=( some []):=by kernel_rfl
abbrev piH(P:Program)(C:Cap)(L:Rw Pt)(x:Pt)(X:List (Prop×Ex×JSt)):Hnd:={ hnd (mkE P QS) 2 with loop:=λ_=>Q4 24 [] (piJ C L x (0:Nat)) X }
theorem QWi(A B:Prop)(k v:Int):VM (mkE prog QS) (piH prog C L x [(A,.ret,Yq k),(B,.exit 0,qL)]) f101 (piU C L x v)=QC.ask (0=0) (QC.ask (L.n=L.n) (QC.ask (C=C) (QC.ask (Fn.func (57:FuncId)=Fn.func (57:FuncId)) (QC.ask (0=0) (QC.ask (0=0) (QC.ask ((↑L.n:Int)=(↑L.n:Int)) (QC.ask ((0:Int)=(0:Int)) (QC.ask (x.cell=x.cell) (QC.ask (x.lay.piece=x.lay.piece) (QC.ask (x.lay.turn=x.lay.turn) (QC.ask (L.n<=L.n) (QC.ask (QB (3:Nat) L.n (λi=>QA.enc (L.get i)) λi=>QA.enc (L.get i)) (QC.both (QC.asm (A) (QC.all (λ(g0:Nat -> Value)=>QC.leaf (vi k) ([])))) (QC.asm (B) (QC.all (λ(g1:Nat->Value)=>QC.leaf (vj (-1:Int)) ([]))))))))))))))))):=by kernel_rfl
theorem QW9(k v:Int):QE 24 [(vi k)] ([]) (KQ (piU C L x v))=( some [k=v]):=by kernel_rfl
theorem QeF:QE 24 [(vj (-1:Int))] ([]) (KQ (piU C L x v))=( some [(-1:Int)=v]):=by kernel_rfl
def V8:Option Nat:=QU (Yw L x) L.n 0
def piR(e:Ex)(J:JSt):Prop:=(e = .ret/\(QU (Yw L x) (L.n-k) k).isSome=true/\J=Yq (Kf (QU (Yw L x) (L.n-k) k)))∨(e = .exit 0/\QU (Yw L x) (L.n-k) k=none/\J=qL)
theorem QXz(hn:L.n<=1000):JL (piJ C L x) (λk=>k<=L.n) (λk=>L.n-k) (piR L x) 24 QCI [] (mkE prog QS) (λ_=>hnd (mkE prog QS) 2) (QH f101 0):=by
 refine⟨λk g0 hk=>Qe (QZV C L x k g0) ?_⟩;have hk:k<=L.n:=hk;have hit:∀(h:k<L.n),Yw L x k=true->piR L x k .ret (Yq k):=λh hs=>.inl ⟨rfl,by rw[(J4 h).1 hs];rfl,by rw[(J4 h).1 hs];rfl⟩
 refine QF (λb0=>?_) (λb0=>?_);have h:k<L.n:=by have:=qdt b0;omega
 have hf:=J4 (p:=Yw L x) h
 iterate 2 (refine QG ?_ ?_;rotate_left)
 refine QF ?_ ?_<;>intro b1
 .refine⟨_,hit h (by unfold Yw;rw[b1];rfl),rfl,rfl,_,Qa0 k k,⟨rfl,trivial⟩⟩
 refine QF ?_ ?_<;>intro b2
 .refine⟨_,hit h (by unfold Yw;rw[b1,b2];rfl),rfl,rfl,_,QTd k k,⟨rfl,trivial⟩⟩
 have hb:Yw L x k=false:=by unfold Yw;rw[b1,b2];rfl
 refine⟨k+1,h,by show L.n-(k+1)<L.n-k;omega,λe J h=>by unfold piR at h ⊢;rw[hf.2 hb];exact h,rfl,rfl,_,QbZ C L x k (k+1),?_⟩
 rotate_left
 .have h:L.n<=k:=by have:=qdf b0;omega
  exact⟨_,.inr ⟨rfl,by rw[show L.n-k=0 by omega];rfl,rfl⟩,rfl,rfl,_,QXY,trivial⟩
 all_goals first|((with_reducible show _=true);(first|rfl|(simp;omega)))|(repeat' first|with_reducible refine QO ?_ ?_|exact tv|exact qRr|exact Vj h hn|refine aI ?_ ?_)
def piX:List (Prop×Ex×JSt):=[((V8 L x).isSome=true,.ret,Yq (Kf (V8 L x))),(V8 L x=none,.exit 0,qL)]
theorem QUG(hn:L.n<=1000)(G:Ctx)(hrd:G.rd=none)(hG:G.n=24):Qx (mkE prog QS) G (piH prog C L x (piX L x)) (Qk f101):=by
 refine KR (body:=QH f101 0) (QN Qb) hrd (by kernel_rfl) ?_
 refine Jt (n0:=24) (QN Qb) (by omega) (λs hs=>Qu (QN Qb) 2 G _ hrd) (λs hs=>(by decide:24<=24)) ?_ (QXz C L x hn) (s0:=0) (Nat.zero_le _) ?_
 .rintro s e J (⟨_,_,rfl⟩|⟨_,_,rfl⟩)<;>exact(by decide:24<=24)
 .rintro e J (⟨rfl,h,rfl⟩|⟨rfl,h,rfl⟩)
  .exact⟨_,qmc,h,rfl,rfl⟩
  .exact⟨_,List.mem_cons_of_mem _ qmc,h,rfl,rfl⟩
theorem QYK:(piU C L x v).Ok:=⟨(by decide:0<=24),rfl,rfl,λq hq=>(by cases hq),rfl,λ_ _=>rfl,λ_ _=>rfl⟩
theorem QYw(hn:L.n<=1000):QR prog 101 (uFC (piU C L x (Kf (V8 L x)))):=by
 refine Kw (E:=mkE prog QS) (QN Qb) func101 (by kernel_rfl) (by kernel_rfl) (QYK ..) (λG h1 h2=>QUG C L x hn G h1 (by rw[h2];rfl)) ⟨?_⟩
 have et:=QWi C L x ((V8 L x).isSome=true) (V8 L x=none) (Kf (V8 L x)) (Kf (V8 L x));refine Qe et ?_;clear et
 iterate 13 refine Qp (by first|exact tv|with_reducible exact qRr|exact rfl) ?_
 refine Kb ?_ ?_;refine Qf λa0=>?_;refine Qh λg0=>?_;refine⟨rfl,rfl,_,QW9 C L x (Kf (V8 L x)) (Kf (V8 L x)),?_⟩
 rotate_left
 refine Qf λa1=>?_;refine Qh λg1=>?_
 .refine⟨rfl,rfl,_,QeF C L x (Kf (V8 L x)),?_⟩;rw[a1]
  repeat' first|exact tv|exact rfl|refine aI ?_ ?_
 all_goals (repeat' first|exact tv|exact rfl|refine aI ?_ ?_)
def QUX(L:Rc Pt)(k:Nat):List (Nat×AV):=[(1,.slz 1 0 L.n (.lit L.c)),(2,.ptr 112 0 0),(6,.ptr 200 0 0),(25,.slz 1 0 L.n (.lit L.c)),(26,.int false .i64 L.n),(27,.int false .i64 k)]
def QAL(L:Rc Pt)(k:Nat):JSt:=⟨92,QUX L k,whB d E++[(112,.cells 0 28 (KT d))]++Qi.blk 0 d.ps++Qi.blk 1 L,400⟩
def QDr(L:Rc Pt):JSt:=⟨92,[(1,.slz 1 0 L.n (.lit L.c)),(6,.ptr 200 0 0)],whB d E++Qi.blk 0 d.ps++Qi.blk 1 L,400⟩
def YM:JSt:=⟨92,[(4,.int false .i64 n),(5,.int false .i64 e)],[],400⟩
def QJs:Ex->List Nat
 | .normal=>[1,2,6,25,26,27]
 | .exit _=>[1,6]
 | .ret=>[4,5]
def QFq(d:Puz)(L:Rc Pt)(k:Nat)(v:Int):Tab:=Qa (Qa QS 52 (KE pb (tnU d 0 (L.get k).lay.piece))) 101 (KE pb (piU (.lit L.c) ⟨k,L.get⟩ (L.get k) v))
abbrev QIr:List AV:=
  [.nili,.ptr 92 0 0,vj 0,vj 2]
abbrev ZM:Nat×Blk:=
  (200,.cells 0 152 (List.append (waf d) ([.map 201,.slz 392 0 0 cO])))
abbrev XF:Nat×Blk:=
  (0,.frz (wae) d.ps.n λi=>QA.enc (d.ps.get i))
abbrev Y9:Nat×Blk:=
  (392,.rowz true 49 kB 0 λi=>QA.enc ([].getD i (Lay.mk (0:Int) (0:Int))))
abbrev WL(L:Rc Pt):Nat×Blk:=
  (1,.frz (wbA) L.1 λi=>QA.enc (L.2 i))
abbrev QQW:Nat×Blk:=
  (112,.cells 0 28 (waf d))
theorem Qd9(d:Puz)(E:ECt)(L:Rc Pt)(k:Nat)(v:Int)(g0:Nat->Value):exec (mkE prog (QFq pb d L k v)) (hnd (mkE prog (QFq pb d L k v)) 2) (QH f19 0) (JSt.inst (QAL d E L k) g0) (Q8 [200,201] QJs) = .br (decide ((k:Int)<(L.1:Int))) (.need (decide ((0:Int)<=(k:Int)/\(k:Int)<(L.1:Int))&&decide (L.1<=L.1)) (.need (decide (k<L.1)) (.need (true) (.br (!Qy (L.2 ((k:Int).toNat+0)).cell (0:Int) (i64.wrap ((d.ps.n:Int)-1))) (.leaf (.tup QIr) ([(ZM d),(201,.mp E.1 E.2),(XF d),Y9])) (.need (true) (.br (!Qy (L.2 ((k:Int).toNat+0)).lay.piece (0:Int) (i64.wrap ((d.ps.n:Int)-1))) (.leaf (.tup QIr) ([(ZM d),(201,.mp E.1 E.2),(XF d),Y9])) (.need (pb (([0=0,0=0,(L.2 ((k:Int).toNat+0)).lay.piece=(L.2 k).lay.piece]++waa d++([cO=cO,0=0,0=0,cO=cO]++wad d)))) (.need (true) (.br (!Qy (L.2 ((k:Int).toNat+0)).lay.turn (0:Int) (i64.wrap (tnV d (L.2 k).lay.piece-1))) (.leaf (.tup QIr) ([(ZM d),(201,.mp E.1 E.2),(XF d),Y9])) (.need (decide ((0:Int)<=(k:Int)/\k<=min L.1 L.3)) (.need (pb ([0=0,k=k, Cap.lit L.3=Cap.lit L.3,Fn.func 57=Fn.func 57,0=0,0=0,(L.2 ((k:Int).toNat+0)).cell=(L.2 k).cell,(L.2 ((k:Int).toNat+0)).lay.piece=(L.2 k).lay.piece,(L.2 ((k:Int).toNat+0)).lay.turn=(L.2 k).lay.turn,k<=L.1,QB 3 k (λi=>QA.enc (L.2 i)) λi=>QA.enc ((Rw.mk k L.2).get i)])) (.br (decide (v≥0)) (.leaf (.tup [.nili,.ptr 92 0 0,vj 0,vj 5]) ([(ZM d),(201,.mp E.1 E.2),(XF d),Y9])) (.leaf (.tup [.nilp,.ptr 92 0 0,.slz 1 0 L.1 (Cap.lit L.3),.ptr 112 0 0,.ptr 200 0 0,.slz 1 0 L.1 (Cap.lit L.3),vi (L.1:Int),vi (i64.wrap ((k:Int)+1))]) ([(ZM d),(201,.mp E.1 E.2),(WL L),(QQW d), (XF d),Y9])))))))))))))) (.leaf (.tup [.ptr 1 0 0,.ptr 92 0 0,.slz 1 0 L.1 (Cap.lit L.3),.ptr 200 0 0]) ([(ZM d),(201,.mp E.1 E.2),(WL L),(XF d),Y9])):=by kernel_rfl
theorem QZP(n e:Int):QE 112 [vj (0:Int),vj (2:Int)] ([((200:Nat),Blk.cells (0:Nat) (152:Nat) (List.append (waD d) ([AV.bool false d.turn,AV.slz (0:Nat) (0:Nat) d.ps.n cO,AV.map (201:Nat),AV.slz (392:Nat) (0:Nat) (0:Nat) cO]))),((201:Nat),Blk.mp E.1 E.2),((0:Nat),Blk.frz [CK.int i64,CK.int i64,CK.int i64,CK.int i64,CK.int i64,CK.int i64,CK.int i64,CK.int i64,CK.int i64,CK.int i64,CK.int i64,CK.int i64,CK.int i64,CK.int i64,CK.int i64,CK.int i64,CK.int i64,CK.int i64,CK.int i64,CK.int i64,CK.int i64,CK.int i64,CK.int i64,CK.int i64,CK.int i64,CK.int i64,CK.int i64,CK.int i64] d.ps.n λi=>QA.enc (d.ps.get i)),((392:Nat),Blk.rowz true (49:Nat) [CK.int i64,CK.int i64] (0:Nat) λi=>QA.enc ([].getD i (Lay.mk (0:Int) (0:Int))))]) (YM n e)=( some [(0:Int)=n,(2:Int)=e]):=by kernel_rfl
theorem QTB(n e:Int):QE 112 [vj (0:Int),vj (2:Int)] ([((200:Nat),Blk.cells (0:Nat) (152:Nat) (List.append (waD d) ([AV.bool false d.turn,AV.slz (0:Nat) (0:Nat) d.ps.n cO,AV.map (201:Nat),AV.slz (392:Nat) (0:Nat) (0:Nat) cO]))),((201:Nat),Blk.mp E.1 E.2),((0:Nat),Blk.frz [CK.int i64,CK.int i64,CK.int i64,CK.int i64,CK.int i64,CK.int i64,CK.int i64,CK.int i64,CK.int i64,CK.int i64,CK.int i64,CK.int i64,CK.int i64,CK.int i64,CK.int i64,CK.int i64,CK.int i64,CK.int i64,CK.int i64,CK.int i64,CK.int i64,CK.int i64,CK.int i64,CK.int i64,CK.int i64,CK.int i64,CK.int i64,CK.int i64] d.ps.n λi=>QA.enc (d.ps.get i)),((392:Nat),Blk.rowz true (49:Nat) [CK.int i64,CK.int i64] (0:Nat) λi=>QA.enc ([].getD i (Lay.mk (0:Int) (0:Int))))]) (YM n e)=( some [(0:Int)=n,(2:Int)=e]):=by kernel_rfl
theorem QSZ(n e:Int):QE 112 [vj (0:Int),vj (2:Int)] ([((200:Nat),Blk.cells (0:Nat) (152:Nat) (List.append (waD d) ([AV.bool false d.turn,AV.slz (0:Nat) (0:Nat) d.ps.n cO,AV.map (201:Nat),AV.slz (392:Nat) (0:Nat) (0:Nat) cO]))),((201:Nat),Blk.mp E.1 E.2),((0:Nat),Blk.frz [CK.int i64,CK.int i64,CK.int i64,CK.int i64,CK.int i64,CK.int i64,CK.int i64,CK.int i64,CK.int i64,CK.int i64,CK.int i64,CK.int i64,CK.int i64,CK.int i64,CK.int i64,CK.int i64,CK.int i64,CK.int i64,CK.int i64,CK.int i64,CK.int i64,CK.int i64,CK.int i64,CK.int i64,CK.int i64,CK.int i64,CK.int i64,CK.int i64] d.ps.n λi=>QA.enc (d.ps.get i)),((392:Nat),Blk.rowz true (49:Nat) [CK.int i64,CK.int i64] (0:Nat) λi=>QA.enc ([].getD i (Lay.mk (0:Int) (0:Int))))]) (YM n e)=( some [(0:Int)=n,(2:Int)=e]):=by kernel_rfl
theorem QY0(n e:Int):QE 112 [vj (0:Int),vj (5:Int)] ([((200:Nat),Blk.cells (0:Nat) (152:Nat) (List.append (waD d) ([AV.bool false d.turn,AV.slz (0:Nat) (0:Nat) d.ps.n cO,AV.map (201:Nat),AV.slz (392:Nat) (0:Nat) (0:Nat) cO]))),((201:Nat),Blk.mp E.1 E.2),((0:Nat),Blk.frz [CK.int i64,CK.int i64,CK.int i64,CK.int i64,CK.int i64,CK.int i64,CK.int i64,CK.int i64,CK.int i64,CK.int i64,CK.int i64,CK.int i64,CK.int i64,CK.int i64,CK.int i64,CK.int i64,CK.int i64,CK.int i64,CK.int i64,CK.int i64,CK.int i64,CK.int i64,CK.int i64,CK.int i64,CK.int i64,CK.int i64,CK.int i64,CK.int i64] d.ps.n λi=>QA.enc (d.ps.get i)),((392:Nat),Blk.rowz true (49:Nat) [CK.int i64,CK.int i64] (0:Nat) λi=>QA.enc ([].getD i (Lay.mk (0:Int) (0:Int))))]) (YM n e)=( some [(0:Int)=n,(5:Int)=e]):=by kernel_rfl
abbrev wbU(L:Rc Pt):List Prop:=[L.1=L.1,Cap.lit L.3=Cap.lit L.3]
abbrev QGk(L:Rc Pt):List Prop:=
  ([0=0]++wbU L++[0=0,0=0])
abbrev QIF(d:Puz):List Prop:=
  ((waC d++([0=0,d.ps.n=d.ps.n]++wcb E))++wao)
abbrev QGK(L:Rc Pt)(d:Puz):List Prop:=
  (wad d++[L.1<=L.1,QB 3 L.1 (λi=>QA.enc (L.2 i)) λi=>QA.enc (L.2 i)])
theorem QcL(L:Rc Pt)(k k':Nat):QE 112 [.slz 1 0 L.1 (Cap.lit L.3),.ptr 112 0 0,.ptr 200 0 0,.slz 1 0 L.1 (Cap.lit L.3),vi (L.1:Int),vi (i64.wrap ((k:Int)+1))] ([(ZM d),(201,.mp E.1 E.2),(WL L),(QQW d),(XF d),Y9]) (QAL d E L k')=(some ((QGk L)++(([0=0,0=0,0=0]++wbU L++[(L.1:Int)=(L.1:Int),i64.wrap ((k:Int)+1)=(k':Int)])++wby d)++(QIF E d)++(waa d++[cO=cO])++(QGK L d))):=by kernel_rfl
theorem QSu(L:Rc Pt):QE 112 [.slz 1 0 L.1 (Cap.lit L.3),.ptr 200 0 0] ([(ZM d),(201,.mp E.1 E.2),(WL L),(XF d),Y9]) (QDr d E L)=(some ((QGk L)++(wby d)++(QIF E d)++(QGK L d))):=by kernel_rfl
def QYe(L:Rc Pt)(k:Nat):List (Nat×AV):=[(1,.slz 1 0 L.n (.lit L.c)),(6,.ptr 200 0 0),(77,.int false .i64 L.n),(78,.int false .i64 k)]
def Hu(L:Rc Pt)(k:Nat):JSt:=⟨92,QYe L k,whB d E++Qi.blk 0 d.ps++Qi.blk 1 L,400⟩
def QC1(L:Rc Pt):JSt:=⟨92,[(1,.slz 1 0 L.n (.lit L.c))],Qi.blk 1 L,400⟩
def QKS:Ex->List Nat
 | .normal=>[1,6,77,78]
 | .exit _=>[1]
 | .ret=>[4,5]
def QGm(d:Puz)(E:ECt)(C:Cap)(K:Rw Pt)(v:Bool):Tab:=Qa QS 53 (KE pb (hsU d E C K v))
abbrev QH4:Nat×Blk:=
  (200,.cells 0 152 (List.append (waf d) ([.map 201,.slz 464 0 0 cO])))
abbrev QG1:Nat×Blk:=
  (464,.rowz true 49 kB 0 λi=>QA.enc ([].getD i (Lay.mk (0:Int) (0:Int))))
theorem QfL(d:Puz)(E:ECt)(L:Rc Pt)(K:Rw Pt)(k:Nat)(v:Bool)(g0:Nat->Value):exec (mkE prog (QGm pb d E (.lit L.c) K v)) (hnd (mkE prog (QGm pb d E (.lit L.c) K v)) 0) (QH f19 1) (JSt.inst (Hu d E L k) g0) (Q8 [200,201] QKS) = .br (decide ((k:Int)<(L.1:Int))) (.need (decide ((0:Int)<=i64.wrap ((k:Int)+1)/\(i64.wrap ((k:Int)+1)).toNat<=min L.1 L.3)) (.need (pb (([0=0,0=0,0=0,(i64.wrap ((k:Int)+1)).toNat=K.n,Cap.lit L.3=Cap.lit L.3]++waa d++(((wcb E)++wao++[K.n<=L.1,QB 3 K.n (λi=>QA.enc (L.2 i)) λi=>QA.enc (K.get i)])++wad d)))) (.br (!v) (.leaf (.tup [.nili,.ptr 92 0 0,vi (k:Int),vj 0]) ([(QH4 d),(201,.mp E.1 E.2),(XF d),QG1])) (.leaf (.tup [.nilp,.ptr 92 0 0,.slz 1 0 L.1 (Cap.lit L.3),.ptr 200 0 0,vi (L.1:Int),vi (i64.wrap ((k:Int)+1))]) ([(QH4 d),(201,.mp E.1 E.2),(WL L),(XF d),QG1]))))) (.leaf (.tup [.ptr 4 0 0,.ptr 92 0 0,.slz 1 0 L.1 (Cap.lit L.3)]) ([(ZM d),(201,.mp E.1 E.2),(WL L),(XF d),Y9])):=by kernel_rfl
theorem QTp(n e:Int):QE 112 [vi (↑k:Int),vj (0:Int)] ([((200:Nat),Blk.cells (0:Nat) (152:Nat) (List.append (waD d) ([AV.bool false d.turn,AV.slz (0:Nat) (0:Nat) d.ps.n cO,AV.map (201:Nat),AV.slz (464:Nat) (0:Nat) (0:Nat) cO]))),((201:Nat),Blk.mp E.1 E.2),((0:Nat),Blk.frz [CK.int i64,CK.int i64,CK.int i64,CK.int i64,CK.int i64,CK.int i64,CK.int i64,CK.int i64,CK.int i64,CK.int i64,CK.int i64,CK.int i64,CK.int i64,CK.int i64,CK.int i64,CK.int i64,CK.int i64,CK.int i64,CK.int i64,CK.int i64,CK.int i64,CK.int i64,CK.int i64,CK.int i64,CK.int i64,CK.int i64,CK.int i64,CK.int i64] d.ps.n λi=>QA.enc (d.ps.get i)),((464:Nat),Blk.rowz true (49:Nat) [CK.int i64,CK.int i64] (0:Nat) λi=>QA.enc ([].getD i (Lay.mk (0:Int) (0:Int))))]) (YM n e)=( some [(↑k:Int)=n,(0:Int)=e]):=by kernel_rfl
theorem QSd(L:Rc Pt)(k k':Nat):QE 112 [.slz 1 0 L.1 (Cap.lit L.3),.ptr 200 0 0,vi (L.1:Int),vi (i64.wrap ((k:Int)+1))] ([(QH4 d),(201,.mp E.1 E.2),(WL L),(XF d),QG1]) (Hu d E L k')=(some ((QGk L)++([(L.1:Int)=(L.1:Int),i64.wrap ((k:Int)+1)=(k':Int)]++wby d)++(QIF E d)++(QGK L d))):=by kernel_rfl
theorem QSh(L:Rc Pt):QE 112 [.slz 1 0 L.1 (Cap.lit L.3)] ([(ZM d),(201,.mp E.1 E.2),(WL L),(XF d),Y9]) (QC1 L)=(some ([0=0]++wbU L++[L.1<=L.1,QB 3 L.1 (λi=>QA.enc (L.2 i)) λi=>QA.enc (L.2 i)])):=by kernel_rfl
def ZN:Rw Pt:=⟨0,λ_=>⟨0,⟨0,0⟩⟩⟩
def ZA(d:Puz)(E:ECt)(v:Bool):Tab:=Qa (Qa QS 60 (KE pb (nbU d E))) 53 (KE pb (hsU d E (.of 0) ZN v))
abbrev QEt(L:Rc Pt)(X1 X2:List (Prop×Ex×JSt)):Code->St->(Ex->St->QC)->QC:=QQY [(7,Kr (d.ok=true) (Q4 112 [200,201] (QAL d E L 0) X1)),(18,Kr (d.ok=true) (Q4 112 [200,201] (Hu d E L 0) X2))]
abbrev QDn(P:Program)(pb:List Prop->Bool)(d:Puz)(E:ECt)(L:Rc Pt)(v:Bool)(X1 X2:List (Prop×Ex×JSt)):Hnd:={ hnd (mkE P (ZA pb d E v)) 8 with loop:=QEt d E L X1 X2 }
theorem QLo(d:Puz)(E:ECt)(L:Rc Pt)(v:Bool)(A1 B1 A2 B2:Prop)(e1 n2:Int):Kl (mkE prog (ZA pb d E v)) (QDn prog pb d E L v [(A1,.ret,YM 0 e1),(B1,.exit 1,QDr d E L)] [(A2,.ret,YM n2 0),(B2,.exit 4,QC1 L)]) f19 (Qd.vals 0 ((d,L,()):Puz×Rc Pt×Unit)) (Qd.blks 0 ((d,L,()):Puz×Rc Pt×Unit)) 112 = .need (decide (d.ps.n<=d.ps.n)&&true&&decide (d.ps.n<=1000)) (.br (!d.ok) (.leaf (.tup [vj 0,vj 1]) ([])) (.need (pb ((waa d++([cO=cO]++wad d)))) (.br (decide ((L.1:Int)>20)) (.leaf (.tup [vj 0,vj 3]) ([])) (.ak (([d.ok=true,0=0]++wbU L++[0=0,0=0,0=0,0=0,0=0]++wbU L++[(L.1:Int)=(L.1:Int),(0:Int)=0])++waa d++[cO=cO,0=0,E.1=E.1,E.2=E.2,0=0]++waa d++([cO=cO]++wad d++[L.1<=L.1,QB 3 L.1 (λi=>QA.enc ((d,L,()).snd.fst.2 i)) λi=>QA.enc (L.2 i)])) (.both (.asm (A1) (.all (λ(g0:Nat->Value)=>.leaf (.tup [vi 0,vi e1]) ([])))) (.asm (B1) (.all (λ(g1:Nat->Value)=>.need (pb (([0=0,0=0,0=0]++waa d++(((wcb E)++wao++[0=0])++wad d)))) (.br (!v) (.leaf (.tup [vj 0, vj 4]) ([])) (.ak (([d.ok=true,0=0]++wbU L++[0=0,0=0,(L.1:Int)=(L.1:Int),(0:Int)=0])++waa d++(((wcb E)++wao)++wad d++[L.1<=L.1,QB 3 L.1 (λi=>QA.enc (L.2 i)) λi=>QA.enc (L.2 i)])) (.both (.asm (A2) (.all (λ(g2:Nat->Value)=>.leaf (.tup [vi n2,vi 0]) ([])))) (.asm (B2) (.all (λ(g3:Nat->Value)=>.leaf (.tup [vi (L.1:Int),vj 0]) ([]))))))))))))))):=by kernel_rfl
theorem Qbu:QE 112 [(AV.tup [vj (0:Int),vj (1:Int)])] ([]) (KP 112 (Xe n e) [])=( some [(0:Int)=n,(1:Int)=e]):=by kernel_rfl
theorem QXj:QE 112 [(AV.tup [vj (0:Int),vj (3:Int)])] ([]) (KP 112 (Xe n e) [])=( some [(0:Int)=n,(3:Int)=e]):=by kernel_rfl
theorem QUp(e1 n e:Int):QE 112 [(AV.tup [vi (0:Int),vi e1])] ([]) (KP 112 (Xe n e) [])=( some [(0:Int)=n,e1=e]):=by kernel_rfl
theorem QfV:QE 112 [(AV.tup [vj (0:Int),vj (4:Int)])] ([]) (KP 112 (Xe n e) [])=( some [(0:Int)=n,(4:Int)=e]):=by kernel_rfl
theorem QUy(n2 n e:Int):QE 112 [(AV.tup [vi n2,vi (0:Int)])] ([]) (KP 112 (Xe n e) [])=( some [n2=n,(0:Int)=e]):=by kernel_rfl
theorem QXJ(L:Rc Pt)(n e:Int):QE 112 [(AV.tup [vi (↑L.1:Int),vj (0:Int)])] ([]) (KP 112 (Xe n e) [])=( some [(↑L.1:Int)=n,(0:Int)=e]):=by kernel_rfl
def YK:Bool:=Qy x.cell 0 (i64.wrap ((d.ps.n:Int)-1))&&(Qy x.lay.piece 0 (i64.wrap ((d.ps.n:Int)-1))&&Qy x.lay.turn 0 (i64.wrap (tnV d x.lay.piece-1)))
def QEx:Bool:=decide (Kf (V8 ⟨k,get⟩ (get k))≥0)
def Jr:Bool := !YK d (get k)||QEx get k
def YN:Int:=cond (YK d (get k)) 5 2
open Classical in
def QB3:List Prop->Bool:=if k<=1000 then QP else λ_=>false
def jz(P:Program)(d:Puz)(L:Rc Pt)(k:Nat):Env:=mkE P (QFq (QB3 k) d L k (Kf (V8 ⟨k,L.get⟩ (L.get k))))
theorem QRp(L:Rc Pt)(k:Nat):(jz prog d L k).Sound:=by
 unfold jz QB3
 by_cases h:k<=1000
 .rw[if_pos h];exact QN ((Qb.add (YP d 0 _)).add (QYw (.lit L.c) ⟨k,L.get⟩ (L.get k) h))
 .rw[if_neg h];exact QN ((Qb.add (Ja (by kernel_rfl) _)).add (Ja (by kernel_rfl) _))
def jC(L:Rc Pt)(k:Nat)(e:Ex)(J:JSt):Prop:=match QU (Jr d L.get) (L.n-k) k with
 | some i=>e = .ret/\J=YM 0 (YN d L.get i)
 | none=>e = .exit 1/\J=QDr d E L
theorem QW0(L:Rc Pt)(hn:L.n<=1000)(hc:L.n<=L.c):Jf (QAL d E L) (λk=>k<=L.n) (λk=>L.n-k) (jC d E L) 112 QJs [200,201] (jz prog d L) (λk=>hnd (jz prog d L k) 2) (QH f19 0):=by
 refine⟨λk g0 hk=>?_⟩;have hk:k<=L.n:=hk;have hk1:k<=1000:=Nat.le_trans hk hn;have hpb:QB3 k=QP:=by unfold QB3;rw[if_pos hk1]
 have hit:∀(_:k<L.n) (e:Int),Jr d L.get k=true->YN d L.get k=e->jC d E L k .ret (YM 0 e):=by
  intro h e hb he;unfold jC;rw[(J4 h).1 hb];exact⟨rfl,by rw[he]⟩
 unfold jz;rw[hpb];have et:=Qd9 QP d E L k (Kf (V8 ⟨k,L.get⟩ (L.get k))) g0;refine Qe et ?_;clear et;refine QF (λb0=>?_) (λb0=>?_);have h:k<L.n:=by have:=qdt b0;omega
 have hf:=J4 (p:=Jr d L.get) h
 iterate 3 (refine QG ?_ ?_;rotate_left)
 refine QF (λb1=>?_) (λb1=>?_);have hp:YK d (L.get k)=false:=by unfold YK;rw[show Qy (L.get k).cell 0 (i64.wrap ((d.ps.n:Int)-1))=false by simpa using b1];rfl
 refine⟨_,hit h 2 (by unfold Jr;rw[hp];rfl) (by unfold YN;rw[hp];rfl),rfl,rfl,_,QZP d E 0 2,?_⟩
 rotate_left
 refine QG ?_ ?_;rotate_left;refine QF (λb2=>?_) (λb2=>?_);have hp:YK d (L.get k)=false:=by unfold YK;rw[show Qy (L.get k).lay.piece 0 (i64.wrap ((d.ps.n:Int)-1))=false by simpa using b2];simp
 refine⟨_,hit h 2 (by unfold Jr;rw[hp];rfl) (by unfold YN;rw[hp];rfl),rfl,rfl,_,QTB d E 0 2,?_⟩
 rotate_left
 iterate 2 (refine QG ?_ ?_;rotate_left)
 refine QF (λb3=>?_) (λb3=>?_);have hp:YK d (L.get k)=false:=by unfold YK;rw[show Qy (L.get k).lay.turn 0 (i64.wrap (tnV d (L.get k).lay.piece-1))=false by simpa using b3];simp
 refine⟨_,hit h 2 (by unfold Jr;rw[hp];rfl) (by unfold YN;rw[hp];rfl),rfl,rfl,_,QSZ d E 0 2,?_⟩
 rotate_left
 iterate 2 (refine QG ?_ ?_;rotate_left)
 refine QF (λb4=>?_) (λb4=>?_);have hp:YK d (L.get k)=true:=by unfold YK;rw[show Qy (L.get k).cell 0 (i64.wrap ((d.ps.n:Int)-1))=true by simpa using b1,show Qy (L.get k).lay.piece 0 (i64.wrap ((d.ps.n:Int)-1))=true by simpa using b2,show Qy (L.get k).lay.turn 0 (i64.wrap (tnV d (L.get k).lay.piece-1))=true by simpa using b3];rfl
 have hd:QEx L.get k=true:=b4;refine⟨_,hit h 5 (by unfold Jr;rw[hd];simp) (by unfold YN;rw[hp];rfl),rfl,rfl,_,QY0 d E 0 5,?_⟩
 rotate_left
 have hp:YK d (L.get k)=true:=by unfold YK;rw[show Qy (L.get k).cell 0 (i64.wrap ((d.ps.n:Int)-1))=true by simpa using b1,show Qy (L.get k).lay.piece 0 (i64.wrap ((d.ps.n:Int)-1))=true by simpa using b2,show Qy (L.get k).lay.turn 0 (i64.wrap (tnV d (L.get k).lay.piece-1))=true by simpa using b3];rfl
 have hd:QEx L.get k=false:=b4;have hb:Jr d L.get k=false:=by unfold Jr;rw[hp,hd];rfl
 refine⟨k+1,h,by show L.n-(k+1)<L.n-k;omega,λe J h=>by unfold jC at h ⊢;rw[hf.2 hb];exact h,rfl,rfl,_,QcL d E L k (k+1),?_⟩
 rotate_left
 have h:L.n<=k:=by have:=qdf b0;omega
 refine⟨_,(by unfold jC;rw[show L.n-k=0 by omega];exact⟨rfl,rfl⟩),rfl,rfl,_,QSu d E L,?_⟩
 rotate_left
 all_goals first|((with_reducible show _=true);(first|rfl|(refine Q7.2 ?_;repeat' first|with_reducible refine QO ?_ ?_|exact tv|with_reducible exact qRr|exact rfl|(show k<=L.n;omega)|refine aI ?_ ?_)|(simp;done)|(simp;omega)))|(repeat' first|exact tv|with_reducible refine QO ?_ ?_|exact qlr _|with_reducible exact qRr|exact Vj h hn|exact rfl|refine aI ?_ ?_)
def QAy:Rw Pt:=⟨k+1,get⟩
def Xb(get:Nat->Pt)(k:Nat):Bool := !hsV d E (Qq (QAy get k))
open Classical in
def q9(P:Program)(d:Puz)(E:ECt)(L:Rc Pt)(k:Nat):Env:=mkE P (QGm (if k<1000 then QP else λ_=>false) d E (.lit L.c) (QAy L.get k) (hsV d E (Qq (QAy L.get k))))
theorem QLl{d:Puz}{E:ECt}(hd:KK d)(hE:WfE E)(L:Rc Pt)(k:Nat):(q9 prog d E L k).Sound:=by
 unfold q9
 by_cases h:k<1000
 .rw[if_pos h];exact QN (Qb.add (QFJ (.lit L.c) hd hE (show k+1<=1000 by omega)))
 .rw[if_neg h];exact QN (Qb.add (Ja (by kernel_rfl) _))
def zP(L:Rc Pt)(k:Nat)(e:Ex)(J:JSt):Prop:=match QU (Xb d E L.get) (L.n-k) k with
 | some i=>e = .ret/\J=YM i 0
 | none=>e = .exit 4/\J=QC1 L
theorem QTE(L:Rc Pt)(hn:L.n<=1000)(hc:L.n<=L.c):Jf (Hu d E L) (λk=>k<=L.n) (λk=>L.n-k) (zP d E L) 112 QKS [200,201] (q9 prog d E L) (λk=>hnd (q9 prog d E L k) 0) (QH f19 1):=by
 refine⟨λk g0 hk=>?_⟩;have hk:k<=L.n:=hk;unfold q9;have et:=QfL (if k<1000 then QP else λ_=>false) d E L (QAy L.get k) k (hsV d E (Qq (QAy L.get k))) g0
 refine Qe et ?_;clear et;refine QF (λb0=>?_) (λb0=>?_);have h:k<L.n:=by have:=qdt b0;omega
 have hf:=J4 (p:=Xb d E L.get) h;have hw:=Vj h hn;have hw2:(i64.wrap ((k:Int)+1)).toNat=k+1:=by rw[hw];exact Int.toNat_natCast _
 rw[if_pos (show k<1000 by omega)]
 iterate 2 (refine QG ?_ ?_;rotate_left)
 refine QF (λb1=>?_) (λb1=>?_);have hb:Xb d E L.get k=true:=b1;refine⟨_,(by unfold zP;rw[hf.1 hb];exact⟨rfl,rfl⟩),rfl,rfl,_,QTp d E k k 0,?_⟩
 rotate_left
 have hb:Xb d E L.get k=false:=b1;refine⟨k+1,h,by show L.n-(k+1)<L.n-k;omega,λe J h=>by unfold zP at h ⊢;rw[hf.2 hb];exact h,rfl,rfl,_,QSd d E L k (k+1),?_⟩
 rotate_left
 have h:L.n<=k:=by have:=qdf b0;omega
 refine⟨_,(by unfold zP;rw[show L.n-k=0 by omega];exact⟨rfl,rfl⟩),rfl,rfl,_,QSh d E L,?_⟩
 rotate_left
 all_goals first|((with_reducible show _=true);(first|(rw[hw];simp;omega)|(refine Q7.2 ?_;repeat' first|with_reducible refine QO ?_ ?_|exact tv|with_reducible exact qRr|exact qRr|exact hw2|exact hw2.symm|exact Nat.le_of_eq hw2|exact Nat.le_of_eq hw2.symm|exact rfl|(show k+1<=L.n;omega)|refine aI ?_ ?_)))|(repeat' first|exact tv|with_reducible refine QO ?_ ?_|exact qlr _|with_reducible exact qRr|exact hw|exact rfl|refine aI ?_ ?_)
def vd(get:Nat->Pt)(n:Nat):Int:=match QU (Xb d E get) n 0 with
 | some i=>i
 | none=>n
def QVb(get:Nat->Pt)(n:Nat):Int×Int:=match QU (Jr d get) n 0 with
 | some i=>(0,YN d get i)
 | none=>cond (hsV d E (Qq ZN)) (vd d E get n,0) (0,4)
def HF(n:Nat):Int×Int:=cond d.ok (cond (decide ((n:Int)>20)) (0,3) (QVb d (QK d) get n)) (0,1)
def Vd:WF (Puz×Rc Pt×Unit):=λ|(d,L,_)=>(decide (d.ps.n<=1000/\L.n<=1000/\L.n<=L.c),Xe (HF d L.get L.n).1 (HF d L.get L.n).2,[])
def QHx:FC:=wFC Vd
theorem QPd(L:Rc Pt):WOk (Vd (d,L,())).2.1 (Vd (d,L,())).2.2:=⟨rfl,by simp[Vd],rfl⟩
def qy(L:Rc Pt):List (Prop×Ex×JSt):=[((QU (Jr d L.get) L.n 0).isSome=true,.ret,YM 0 (YN d L.get ((QU (Jr d L.get) L.n 0).getD 0))),(QU (Jr d L.get) L.n 0=none,.exit 1,QDr d E L)]
def qt(L:Rc Pt):List (Prop×Ex×JSt):=[((QU (Xb d E L.get) L.n 0).isSome=true,.ret,YM (((QU (Xb d E L.get) L.n 0).getD 0:Nat):Int) 0),(QU (Xb d E L.get) L.n 0=none,.exit 4,QC1 L)]
theorem QcY:Ky (Qk f19)=[.loop (QH f19 0),.loop (QH f19 1)]:=by kernel_rfl
theorem QOk(L:Rc Pt)(pb:List Prop->Bool)(v:Bool)(hT:Qc (ZA pb d (QK d) v))(hn:L.n<=1000)(hc:L.n<=L.c)(G:Ctx)(hrd:G.rd=none)(hG:G.n=112):Qx (mkE prog (ZA pb d (QK d) v)) G (QDn prog pb d (QK d) L v (qy d (QK d) L) (qt d (QK d) L)) (Qk f19):=by
 refine QNN (QN hT) hrd ?_;rw[QcY];intro s hs;simp only[List.mem_cons,List.not_mem_nil,or_false]at hs;rcases hs with rfl|rfl
 .have e:QEt d (QK d) L (qy d (QK d) L) (qt d (QK d) L) (.loop (QH f19 0))=Kr (d.ok=true) (Q4 112 [200,201] (QAL d (QK d) L 0) (qy d (QK d) L)):=by kernel_rfl
  rw[e];refine JK λho=>?_;refine Jp (E0:=mkE prog (ZA pb d (QK d) v)) (E:=jz prog d L) (H:=λk=>hnd (jz prog d L k) 2) (n0:=112) (s0:=0) (λ_=>rfl) (QRp d L) (by omega) (λk _=>Qu (QRp d L k) 2 G _ hrd) (λk _=>(by decide:112<=400)) ?_ (QW0 d (QK d) L hn hc) (Nat.zero_le _) ?_
  .intro k e J h;unfold jC at h;split at h<;>(rw[h.2];exact(by decide:112<=400))
  .intro e J h;unfold jC at h;rw[Nat.sub_zero]at h;unfold qy;cases hf:QU (Jr d L.get) L.n 0 with
   | some i=>rw[hf]at h;exact⟨_,qmc,rfl,h.1.symm,h.2.symm⟩
   | none=>rw[hf]at h;exact⟨_,List.mem_cons_of_mem _ qmc,rfl,h.1.symm,h.2.symm⟩
 .have e:QEt d (QK d) L (qy d (QK d) L) (qt d (QK d) L) (.loop (QH f19 1))=Kr (d.ok=true) (Q4 112 [200,201] (Hu d (QK d) L 0) (qt d (QK d) L)):=by kernel_rfl
  rw[e];refine JK λho=>?_;have hd:=(qi (jb ho)).1;have hE:=(Ze d hd.n).w;refine Jp (E0:=mkE prog (ZA pb d (QK d) v)) (E:=q9 prog d (QK d) L) (H:=λk=>hnd (q9 prog d (QK d) L k) 0) (n0:=112) (s0:=0) (λ_=>rfl) (QLl hd hE L) (by omega) (λk _=>Qu (QLl hd hE L k) 0 G _ hrd) (λk _=>(by decide:112<=400)) ?_ (QTE d (QK d) L hn hc) (Nat.zero_le _) ?_
  .intro k e J h;unfold zP at h;split at h<;>(rw[h.2];exact(by decide:112<=400))
  .intro e J h;unfold zP at h;rw[Nat.sub_zero]at h;unfold qt;cases hf:QU (Xb d (QK d) L.get) L.n 0 with
   | some i=>rw[hf]at h;exact⟨_,qmc,rfl,h.1.symm,h.2.symm⟩
   | none=>rw[hf]at h;exact⟨_,List.mem_cons_of_mem _ qmc,rfl,h.1.symm,h.2.symm⟩
theorem QWU(L:Rc Pt)(hx:(Vd (d,L,())).1=true)(ho:d.ok=false):QR prog 19 (wFC (VF Vd (d,L,()))):=by
 obtain⟨hn,hl,hc⟩:=qdt hx;have hT:Qc (ZA (λ_=>false) d (QK d) false):=(Qb.add (Ja (by kernel_rfl) _)).add (Ja (by kernel_rfl) _)
 refine YY (c:=Qk f19) (E:=mkE prog (ZA (λ_=>false) d (QK d) false)) (H:=QDn prog (λ_=>false) d (QK d) L false (qy d (QK d) L) (qt d (QK d) L)) (QN hT) func19 (by kernel_rfl) (by kernel_rfl) (N:=112) (by decide) (d,L,()) (λG h1 h2=>QOk d L _ _ hT hl hc G h1 h2) (QPd d L) ?_
 have hv:HF d L.get L.n=(0,1):=by simp only[HF,ho,cond_false]
 refine Qe (QLo (λ_=>false) d (QK d) L false _ _ _ _ _ _) ?_;refine QG (by simp;omega) (QF (λ_=>?_) (λh=>by rw[ho]at h;cases h))
 simp only[Vd,hv];refine⟨rfl,rfl,_,Qbu 0 1,?_⟩
 repeat' first|with_reducible refine QO ?_ ?_|exact tv|with_reducible exact qRr|exact rfl|refine aI ?_ ?_
theorem QdQ(L:Rc Pt)(hx:(Vd (d,L,())).1=true)(ho:d.ok=true):QR prog 19 (wFC (VF Vd (d,L,()))):=by
 obtain⟨hn,hl,hc⟩:=qdt hx;have hd:=(qi (jb ho)).1;have hE:=(Ze d hd.n).w;have hT:Qc (ZA QP d (QK d) (hsV d (QK d) (Qq ZN))):=(Qb.add (Zw d (by omega))).add (QFJ (.of 0) hd hE (show(0:Nat)<=1000 by decide))
 refine YY (c:=Qk f19) (E:=mkE prog (ZA QP d (QK d) (hsV d (QK d) (Qq ZN)))) (H:=QDn prog QP d (QK d) L (hsV d (QK d) (Qq ZN)) (qy d (QK d) L) (qt d (QK d) L)) (QN hT) func19 (by kernel_rfl) (by kernel_rfl) (N:=112) (by decide) (d,L,()) (λG h1 h2=>QOk d L _ _ hT hl hc G h1 h2) (QPd d L) ?_
 have hv:HF d L.get L.n=cond (decide ((L.n:Int)>20)) (0,3) (match QU (Jr d L.get) L.n 0 with
   | some i=>(0,YN d L.get i)
   | none=>cond (hsV d (QK d) (Qq ZN)) (vd d (QK d) L.get L.n,0) (0,4)):=by simp only[HF,ho,cond_true];rfl
 have et:=QLo QP d (QK d) L (hsV d (QK d) (Qq ZN)) ((QU (Jr d L.get) L.n 0).isSome=true) (QU (Jr d L.get) L.n 0=none) ((QU (Xb d (QK d) L.get) L.n 0).isSome=true) (QU (Xb d (QK d) L.get) L.n 0=none) (YN d L.get ((QU (Jr d L.get) L.n 0).getD 0)) (((QU (Xb d (QK d) L.get) L.n 0).getD 0:Nat):Int);refine Qe et ?_;clear et;refine QG ?_ ?_;rotate_left;refine QF ?_ ?_<;>intro b0
 .rw[ho]at b0;cases b0
 refine QG ?_ ?_;rotate_left;refine QF (λb1=>?_) (λb1=>?_);rw[show decide ((L.n:Int)>20)=true from b1,cond_true]at hv;simp only[Vd,hv];refine⟨rfl,rfl,_,QXj 0 3,?_⟩
 rotate_left
 iterate 43 refine Qp (by first|exact tv|exact ho|with_reducible exact qRr|exact rfl) ?_
 refine Kb ?_ ?_;refine Qf λa0=>?_;refine Qh λg0=>?_
 .rw[show decide ((L.n:Int)>20)=false from b1,cond_false]at hv;cases hf:QU (Jr d L.get) L.n 0 with
  | none=>rw[hf]at a0;cases a0
  | some i=>
  rw[hf]at hv;simp only[Vd,hv];refine⟨rfl,rfl,_,QUp (YN d L.get i) 0 (YN d L.get i),?_⟩
  repeat' first|with_reducible refine QO ?_ ?_|exact tv|with_reducible exact qRr|exact rfl|refine aI ?_ ?_
 refine Qf λa1=>?_;refine Qh λg1=>?_;refine QG ?_ ?_;rotate_left;refine QF (λb2=>?_) (λb2=>?_);rw[show decide ((L.n:Int)>20)=false from b1,cond_false,a1]at hv;simp only[show hsV d (QK d) (Qq ZN)=false by simpa using b2,cond_false]at hv
 simp only[Vd,hv];refine⟨rfl,rfl,_,QfV 0 4,?_⟩
 rotate_left
 iterate 30 refine Qp (by first|exact tv|exact ho|with_reducible exact qRr|exact rfl) ?_
 refine Kb ?_ ?_;refine Qf λa2=>?_;refine Qh λg2=>?_
 .rw[show decide ((L.n:Int)>20)=false from b1,cond_false,a1]at hv;simp only[show hsV d (QK d) (Qq ZN)=true by simpa using b2,cond_true]at hv
  cases hf:QU (Xb d (QK d) L.get) L.n 0 with
  | none=>rw[hf]at a2;cases a2
  | some i=>
  rw[show vd d (QK d) L.get L.n=i by unfold vd;rw[hf]]at hv
  simp only[Vd,hv];refine⟨rfl,rfl,_,QUy i i 0,?_⟩
  repeat' first|with_reducible refine QO ?_ ?_|exact tv|with_reducible exact qRr|exact rfl|refine aI ?_ ?_
 refine Qf λa3=>?_;refine Qh λg3=>?_;rw[show decide ((L.n:Int)>20)=false from b1,cond_false,a1]at hv;simp only[show hsV d (QK d) (Qq ZN)=true by simpa using b2,cond_true]at hv
 rw[show vd d (QK d) L.get L.n=L.n by unfold vd;rw[a3]]at hv
 simp only[Vd,hv];refine⟨rfl,rfl,_,QXJ L L.n 0,?_⟩
 rotate_left
 all_goals first|((with_reducible show _=true);(first|(simp;done)|(refine Q7.2 ?_;repeat' first|with_reducible refine QO ?_ ?_|exact tv|with_reducible exact qRr|exact rfl|refine aI ?_ ?_)|(simp;omega)))|(repeat' first|with_reducible refine QO ?_ ?_|exact tv|with_reducible exact qRr|exact rfl|refine aI ?_ ?_)
theorem QZO(L:Rc Pt)(hx:(Vd (d,L,())).1=true):QR prog 19 (wFC (VF Vd (d,L,()))):=by
 cases ho:d.ok with
 | false=>exact QWU d L hx ho
 | true=>exact QdQ d L hx ho
theorem QQG:QR prog 19 QHx:=GP (by kernel_rfl) λ|(d,L,()),hx=>QZO d L hx
