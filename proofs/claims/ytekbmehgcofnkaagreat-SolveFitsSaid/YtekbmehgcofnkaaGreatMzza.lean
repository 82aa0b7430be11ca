/- - -/
import Derived.Test.YtekbmehgcofnkaaGreatMzp
import Derived.Test.YtekbmehgcofnkaaGreatMzn
import Derived.Test.YtekbmehgcofnkaaGreatMu
open Go.Proofs.Tryz
open Go.IntKind (i64)
set_option maxRecDepth 100000
namespace Go.Proofs.YtekbmehgcofnkaaGreat
open Go.SX
variable {α:Type}(d:Puz)(M:List Jn)(m:Int)(S:List Jn)(p:Nat)
def sfB(S M:List Jn):List (Nat×Blk):=[rwJ true 48 S,rwJ true 49 M,(8,.cells 0 28 (KS d))]++Qi.blk 0 d.ps
def QQm(S M:List Jn)(a b p:Nat):List (Nat×AV):=[(1,.ptr 8 0 0),(3,.slz 48 0 S.length (.of 0)),(4,.slz 49 0 M.length (.of 0)),(6,.int false .i64 a),(7,.int false .i64 b),(53,.int false .i64 d.ps.n),(54,.int false .i64 p)]
def QQy(S M:List Jn)(a b p i:Nat):List (Nat×AV):=QQm d S M a b p++[(8,.int false .i64 p),(57,.int false .i64 i)]
def QP9(S M:List Jn)(a b p i q:Nat):List (Nat×AV):=QQy d S M a b p i++[(9,.int false .i64 i),(10,.int false .i64 q)]
def qC(S M:List Jn)(a b p:Nat):JSt:=⟨149,QQm d S M a b p,sfB d S M,216⟩
def Ws(S M:List Jn)(a b p i:Nat):JSt:=⟨149,QQy d S M a b p i,sfB d S M,216⟩
def ZK(S M:List Jn)(a b p i q:Nat):JSt:=⟨149,QP9 d S M a b p i q,sfB d S M,216⟩
def Hl(S M:List Jn)(a b p i q j:Nat):JSt:=⟨149,QP9 d S M a b p i q++[(69,.int false .i64 j)],sfB d S M,216⟩
def QEl(S M:List Jn)(a b:Nat):JSt:=⟨149,[(3,.slz 48 0 S.length (.of 0)),(4,.slz 49 0 M.length (.of 0)),(6,.int false .i64 a),(7,.int false .i64 b)],[rwJ true 48 S,rwJ true 49 M],216⟩
def QKq:Ex->List Nat
 | .normal=>[1,3,4,6,7,53,54]
 | .exit _=>[3,4,6,7]
 | .ret=>[2]
def QLe:Ex->List Nat
 | .normal=>[1,3,4,6,7,53,54,8,57]
 | .exit _=>[1,3,4,6,7,53,54]
 | .ret=>[2]
def QNH:Ex->List Nat
 | .normal=>[1,3,4,6,7,53,54,8,57,9,10]
 | .exit _=>[1,3,4,6,7,53,54,8,57]
 | .ret=>[2]
def QCw:Ex->List Nat
 | .normal=>[1,3,4,6,7,53,54,8,57,9,10,69]
 | .exit _=>[1,3,4,6,7,53,54,8,57,9,10]
 | .ret=>[2]
def sfH(S M:List Jn):List (Nat×Blk):=[(8,.cells 0 28 (KS d)),rwJ true 48 S,rwJ true 49 M]++Qi.blk 0 d.ps
def sfV(S M:List Jn)(a b:Int)(p i q:Nat):List AV:=[.ptr 8 0 0,.slz 48 0 S.length (.of 0),.slz 49 0 M.length (.of 0),.int false .i64 a,.int false .i64 b,.int false .i64 d.ps.n,.int false .i64 p,.int false .i64 p,.int false .i64 i,.int false .i64 i,.int false .i64 q]
def jg(S M:List Jn)(p i q j:Nat)(a b:Int):QC := .leaf (.tup ([.nilp,.ptr 149 0 0]++(sfV d S M a b p i q++[.int false .i64 (i64.wrap ((j:Int)+1))]))) (sfH d S M)
def QBY:QC := .leaf (.tup [.nili,.ptr 149 0 0,.bool true false]) []
def sfQ(a p i q j:Nat):Bool := !((S.getD a ⟨0,0,0,0⟩).a==(p:Int)&&((S.getD a ⟨0,0,0,0⟩).i==(i:Int)&&((S.getD a ⟨0,0,0,0⟩).b==(q:Int)&&((S.getD a ⟨0,0,0,0⟩).j==(j:Int)&&true))))
def sfM(S M:List Jn)(b p i q j:Nat)(a' n:Int):QC := .br (n != 0) (.br (decide ((b:Int)≥(M.length:Int))) QBY (.need (decide ((0:Int)<=(b:Int)/\(b:Int)<(M.length:Int))&&decide (M.length<=M.length)) (.need (decide (b<M.length)) (.br (sfQ M b p i q j) QBY (jg d S M p i q j a' (i64.wrap ((b:Int)+1))))))) (jg d S M p i q j a' b)
def sfX(S M:List Jn)(a b p i q j:Nat)(v:Int×Int):QC := .br (v.2 != 0) QBY (.br (v.1==2) (.br (decide ((a:Int)≥(S.length:Int))) QBY (.need (decide ((0:Int)<=(a:Int)/\(a:Int)<(S.length:Int))&&decide (S.length<=S.length)) (.need (decide (a<S.length)) (.br (sfQ S a p i q j) QBY (sfM d S M b p i q j (i64.wrap ((a:Int)+1)) v.1))))) (sfM d S M b p i q j a v.1))
def sfT(S M:List Jn)(a b p i q j:Nat):QC := .br (decide ((j:Int)<4))
 (.need (decide ((0:Int)<=(p:Int)/\(p:Int)<(d.ps.n:Int))&&decide (d.ps.n<=d.ps.n)) (HM i 4 λs=>.need (decide (p<d.ps.n)) (.need (decide ((0:Int)<=(q:Int)/\(q:Int)<(d.ps.n:Int))&&decide (d.ps.n<=d.ps.n)) (HM j 4 λt=>.need (decide (q<d.ps.n)) (.need true (sfX d S M a b p i q j (Kq d.pK (K1 (d.ps.get p) s) (K1 (d.ps.get q) t))))))))
 (.leaf (.tup ([.ptr 6 0 0,.ptr 149 0 0]++sfV d S M a b p i q)) (sfH d S M))
theorem QiV(S M:List Jn)(a b p i q j:Nat)(g:Nat->Value):exec (mkF prog JQ) (hnd (mkF prog JQ) 2) (QU (QU (QU (QH f11 0)))) (JSt.inst (Hl d S M a b p i q j) g) (Q9 [] QCw)=sfT d S M a b p i q j:=by kernel_rfl
noncomputable abbrev waG(M:List Jn)(S:List Jn):List Prop:=[S.length<=S.length,QB (4:Nat) S.length (λi=>QA.enc (S.getD i (Jn.mk (0:Int) (0:Int) (0:Int) (0:Int)))) λi=>QA.enc (S.getD i (Jn.mk (0:Int) (0:Int) (0:Int) (0:Int))),M.length<=M.length,QB (4:Nat) M.length (λi=>QA.enc (M.getD i (Jn.mk (0:Int) (0:Int) (0:Int) (0:Int)))) λi=>QA.enc (M.getD i (Jn.mk (0:Int) (0:Int) (0:Int) (0:Int)))]
abbrev wbT(M:List Jn)(S:List Jn):List Prop:=[0=0,0=0,0=0,S.length=S.length,cO=cO,0=0,M.length=M.length,cO=cO]
theorem Qae(S M:List Jn)(a b jv:Int)(p i q a' b' j':Nat):QF 8 (sfV d S M a b p i q++[vi jv]) (sfH d S M) (Hl d S M a' b' p i q j')=( some (((wbT M S++[a=(↑a':Int),b=(↑b':Int),(↑d.ps.n:Int)=(↑d.ps.n:Int),(↑p:Int)=(↑p:Int),(↑p:Int)=(↑p:Int),(↑i:Int)=(↑i:Int),(↑i:Int)=(↑i:Int),(↑q:Int)=(↑q:Int),jv=(↑j':Int)])++waG M S)++waa d++[cO=cO,d.ps.n<=d.ps.n,QB (28:Nat) d.ps.n (λi=>QA.enc (d.ps.get i)) λi=>QA.enc (d.ps.get i)])):=by kernel_rfl
theorem QjQ(S M:List Jn)(a b:Nat)(p i q a' b':Nat):QF 8 (sfV d S M a b p i q) (sfH d S M) (ZK d S M a' b' p i q)=( some (((wbT M S++[(↑a:Int)=(↑a':Int),(↑b:Int)=(↑b':Int),(↑d.ps.n:Int)=(↑d.ps.n:Int),(↑p:Int)=(↑p:Int),(↑p:Int)=(↑p:Int),(↑i:Int)=(↑i:Int),(↑i:Int)=(↑i:Int),(↑q:Int)=(↑q:Int)])++waG M S)++waa d++[cO=cO,d.ps.n<=d.ps.n,QB (28:Nat) d.ps.n (λi=>QA.enc (d.ps.get i)) λi=>QA.enc (d.ps.get i)])):=by kernel_rfl
abbrev QGt(P:Program)(d:Puz)(S M:List Jn)(a b p i q a' b':Nat):Hnd:={ hnd (mkF P JQ) 2 with loop:=λ_=>JT (q<d.ps.n) (KC 8 [] (Hl d S M a b p i q 0) [(True,.exit 6,ZK d S M a' b' p i q)]) }
abbrev QJO(P:Program)(d:Puz)(S M:List Jn)(a b p i a' b':Nat):Hnd:={ hnd (mkF P JQ) 2 with loop:=λ_=>JT (i<4) (KC 8 [] (ZK d S M a b p i (p+1)) [(True,.exit 4,Ws d S M a' b' p i)]) }
abbrev QGQ(P:Program)(d:Puz)(S M:List Jn)(a b p a' b':Nat):Hnd:={ hnd (mkF P JQ) 2 with loop:=λ_=>JT (p<d.ps.n) (KC 8 [] (Ws d S M a b p 0) [(True,.exit 2,qC d S M a' b' p)]) }
noncomputable abbrev QNj:Nat×Blk:=
  (8,.cells 0 28 (waf d))
abbrev He:List CK:=
  (waH)
abbrev QPn:List CK:=
  (wae)
noncomputable abbrev wbi(M:List Jn)(S:List Jn)(d:Puz):List (Nat×Blk):=[(48,.rowz true 67 He S.length λi=>QA.enc (S.getD i (Jn.mk (0:Int) (0:Int) (0:Int) (0:Int)))),(49,.rowz true 67 He M.length λi=>QA.enc (M.getD
  i (Jn.mk (0:Int) (0:Int) (0:Int) (0:Int)))),(0,.frz QPn d.ps.n λi=>QA.enc (d.ps.get i))]
noncomputable abbrev qT(d:Puz)(i:Nat):List (Nat×Blk):=
  ((QNj d)::wbi M S d)
abbrev wan(M:List Jn)(S:List Jn):List Prop:=[QB 4 S.length (λi=>QA.enc (S.getD i (Jn.mk (0:Int) (0:Int) (0:Int) (0:Int)))) λi=>QA.enc (S.getD i (Jn.mk (0:Int) (0:Int) (0:Int) (0:Int))),M.length<=M.length,QB 4 M.length (λi=>QA.enc (M.getD i (Jn.mk (0:Int) (0:Int) (0:Int) (0:Int)))) λi=>QA.enc (M.getD i (Jn.mk (0:Int) (0:Int) (0:Int) (0:Int)))]
noncomputable abbrev wa2(M:List Jn)(S:List Jn):List AV:=[.ptr 8 0 0, .slz 48 0 S.length cO,.slz 49 0 M.length cO]
theorem QWp(S M:List Jn)(a b p i q a' b':Nat)(g:Nat->Value):exec (mkF prog JQ) (QGt prog d S M a b p i q a' b') (QU (QU (QH f11 0))) (JSt.inst (ZK d S M a b p i q) g) (Q9 [] QNH) = .br (decide ((q:Int)<(d.ps.n:Int))) (.ak (((([q<d.ps.n]++wbT M S++[(a:Int)=(a:Int),(b:Int)=(b:Int)])++waF d p++[(i:Int)=(i:Int),(i:Int)=(i:Int),(q:Int)=(q:Int),(0:Int)=0,S.length<=S.length])++wan M S)++waa d++([cO=cO]++wad d)) (.asm (True) (.all (λ(g0:Nat->Value)=>.leaf (.tup (.nilp::.ptr 149 0 0::List.append (wa2 M S) ((vi (a':Int)::vi (b':Int)::List.append (wbp d p) ([vi (i:Int),vi (i:Int),vi (i64.wrap ((q:Int)+1))]))))) ((qT M S d i)))))) (.leaf (.tup (.ptr 4 0 0::.ptr 149 0 0::List.append (wa2 M S) ((vi (a:Int)::vi (b:Int)::List.append (wbp d p) ([vi (i:Int)]))))) ((qT M S d i))):=by kernel_rfl
abbrev QAg:List Prop:=
  (wbT M S)
abbrev QFS(d:Puz)(i:Nat):List Prop:=
  ((wan M S)++waa d++([cO=cO]++wad d))
theorem Qjf(S M:List Jn)(p i q q' a' b' a2 b2:Nat):QF 8 (List.append (wa2 M S) ((vi (a':Int)::vi (b':Int)::List.append (wbp d p) ([vi (i:Int),vi (i:Int),vi (i64.wrap ((q:Int)+1))])))) ((qT M S d i)) (ZK d S M a2 b2 p i q')=(some ((QAg M S)++([(a':Int)=(a2:Int),(b':Int)=(b2:Int)]++waF d p++[(i:Int)=(i:Int),(i:Int)=(i:Int),i64.wrap ((q:Int)+1)=(q':Int),S.length<=S.length])++(QFS M S d i))):=by kernel_rfl
theorem QeO(S M:List Jn)(a b p i q:Nat):QF 8 (List.append (wa2 M S) ((vi (a:Int)::vi (b:Int)::List.append (wbp d p) ([vi (i:Int)])))) ((qT M S d i)) (Ws d S M a b p i)=(some ((QAg M S)++([(a:Int)=(a:Int),(b:Int)=(b:Int)]++waF d p++[(i:Int)=(i:Int),S.length<=S.length])++(QFS M S d i))):=by kernel_rfl
theorem Qaj(S M:List Jn)(a b p i a' b':Nat)(g:Nat->Value):exec (mkF prog JQ) (QJO prog d S M a b p i a' b') (QU (QH f11 0)) (JSt.inst (Ws d S M a b p i) g) (Q9 [] QLe) = .br (decide ((i:Int)<4)) (.ak (((([i<4]++wbT M S++[(a:Int)=(a:Int),(b:Int)=(b:Int)])++waF d p++[(i:Int)=(i:Int),(i:Int)=(i:Int),i64.wrap ((p:Int)+1)=(↑(p+1):Int),S.length<=S.length])++wan M S)++waa d++([cO=cO]++wad d)) (.asm (True) (.all (λ(g0:Nat->Value)=>.leaf (.tup (.nilp::.ptr 149 0 0::List.append (wa2 M S) ((vi (a':Int)::vi (b':Int)::List.append (wbp d p) ([vi (i64.wrap ((i:Int)+1))]))))) ((qT M S d i)))))) (.leaf (.tup (.ptr 2 0 0::.ptr 149 0 0::List.append (wa2 M S) ([vi (a:Int),vi (b:Int),vi (d.ps.n:Int),vi (p:Int)]))) ((qT M S d i))):=by kernel_rfl
theorem Qb8(S M:List Jn)(p i i' a' b' a2 b2:Nat):QF 8 (List.append (wa2 M S) ((vi (a':Int)::vi (b':Int)::List.append (wbp d p) ([vi (i64.wrap ((i:Int)+1))])))) ((qT M S d i)) (Ws d S M a2 b2 p i')=(some ((QAg M S)++([(a':Int)=(a2:Int),(b':Int)=(b2:Int)]++waF d p++[i64.wrap ((i:Int)+1)=(i':Int),S.length<=S.length]) ++ (QFS M S d i))):=by kernel_rfl
theorem Qbp(S M:List Jn)(a b p i:Nat):QF 8 (List.append (wa2 M S) ([vi (a:Int),vi (b:Int),vi (d.ps.n:Int),vi (p:Int)])) ((qT M S d i)) (qC d S M a b p)=(some ((QAg M S)++([(a:Int)=(a:Int),(b:Int)=(b:Int)]++wbM d p++[S.length<=S.length])++(QFS M S d i))):=by kernel_rfl
noncomputable abbrev QKn(d:Puz):List (Nat×Blk):=
  ((QNj d)::wbi M S d)
theorem Qar(S M:List Jn)(a b p a' b':Nat)(g:Nat->Value):exec (mkF prog JQ) (QGQ prog d S M a b p a' b') (QH f11 0) (JSt.inst (qC d S M a b p) g) (Q9 [] QKq) = .br (decide ((p:Int)<(d.ps.n:Int))) (.ak (((([p<d.ps.n]++wbT M S++[(a:Int)=(a:Int),(b:Int)=(b:Int)])++waF d p++[(0:Int)=0,S.length<=S.length])++wan M S)++waa d++([cO=cO]++wad d)) (.asm (True) (.all (λ(g0:Nat->Value)=>.leaf (.tup (.nilp::.ptr 149 0 0::List.append (wa2 M S) ([vi (a':Int),vi (b':Int),vi (d.ps.n:Int),vi (i64.wrap ((p:Int)+1))]))) ((QKn M S d)))))) (.leaf (.tup [.ptr 0 0 0,.ptr 149 0 0,.slz 48 0 S.length cO,.slz 49 0 M.length cO,vi (a:Int),vi (b:Int)]) ([(48,.rowz true 67 He S.length λi=>QA.enc (S.getD i (Jn.mk (0:Int) (0:Int) (0:Int) (0:Int)))),(49,.rowz true 67 He M.length λi=>QA.enc (M.getD i (Jn.mk (0:Int) (0:Int) (0:Int) (0:Int))))])):=by kernel_rfl
theorem QY4(S M:List Jn)(p p' a' b' a2 b2:Nat):QF 8 (List.append (wa2 M S) ([vi (a':Int),vi (b':Int),vi (d.ps.n:Int),vi (i64.wrap ((p:Int)+1))])) ((QKn M S d)) (qC d S M a2 b2 p')=(some ((QAg M S)++(([(a':Int)=(a2:Int),(b':Int)=(b2:Int),(d.ps.n:Int)=(d.ps.n:Int),i64.wrap ((p:Int)+1)=(p':Int),S.length<=S.length]++wan M S)++waa d++([cO=cO]++wad d)))):=by kernel_rfl
theorem Qcp(d:Puz)(S M:List Jn)(a b p:Nat):QF 8 [AV.slz (48:Nat) (0:Nat) S.length cO,AV.slz (49:Nat) (0:Nat) M.length cO,vi (↑a:Int),vi (↑b:Int)] ([((48:Nat),Blk.rowz true (67:Nat) [CK.int i64,CK.int i64,CK.int i64,CK.int i64] S.length λi=>QA.enc (S.getD i (Jn.mk (0:Int) (0:Int) (0:Int) (0:Int)))),((49:Nat),Blk.rowz true (67:Nat) [CK.int i64,CK.int i64,CK.int i64,CK.int i64] M.length λi=>QA.enc (M.getD i (Jn.mk (0:Int) (0:Int) (0:Int) (0:Int))))]) (QEl S M a b)=( some ([0=0,S.length=S.length,cO=cO,0=0,M.length=M.length,cO=cO,(↑a:Int)=(↑a:Int),(↑b:Int)=(↑b:Int)]++waG M S)):=by kernel_rfl
theorem HO(f:Nat->List α)(k:Nat):(List.range (k+1)).flatMap f=(List.range k).flatMap f++f k:=by
 rw[List.range_succ,List.flatMap_append];simp
theorem QEP(f:Nat->List α){a b:Nat}(h:a<=b):(List.range a).flatMap f <+: (List.range b).flatMap f:=by
 obtain⟨k,rfl⟩:=Nat.exists_eq_add_of_le h;clear h
 induction k with
 | zero=>exact List.prefix_refl _
 | succ k ih=>
  rw[<-Nat.add_assoc,HO];exact ih.trans (List.prefix_append _ _)
theorem QIi{a b c:List α}(h:b <+: c):a++b <+: a++c:=by
 obtain⟨t,rfl⟩:=h;exact⟨t,by rw[List.append_assoc]⟩
def isL(p i q j:Nat):List Jn:=cond (isJ d m p i q j) [⟨p,i,q,j⟩] []
def px1:List Jn:=(List.range p).flatMap (WW d m)
def px2(p i:Nat):List Jn:=px1 d m p++(List.range i).flatMap (jA d m p)
def px3(p i q:Nat):List Jn:=px2 d m p i++(List.range q).flatMap (ZX d m p i)
def px4(p i q j:Nat):List Jn:=px3 d m p i q++(List.range j).flatMap (isL d m p i q)
theorem vk(p i q:Nat):px4 d m p i q 0=px3 d m p i q:=List.append_nil _
theorem QVB(p i q:Nat):px4 d m p i q 4=px3 d m p i (q+1):=by
 unfold px4 px3;rw[show(List.range (q+1)).flatMap (ZX d m p i)=(List.range q).flatMap (ZX d m p i)++ZX d m p i q from HO _ _,<-List.append_assoc];rfl
theorem QTC(p i:Nat):px3 d m p i d.ps.n=px2 d m p (i+1):=by
 unfold px3 px2;rw[show(List.range (i+1)).flatMap (jA d m p)=(List.range i).flatMap (jA d m p)++jA d m p i from HO _ _,<-List.append_assoc];rfl
theorem QRE:px2 d m p 4=px1 d m (p+1):=by
 unfold px2 px1;rw[show(List.range (p+1)).flatMap (WW d m)=(List.range p).flatMap (WW d m)++WW d m p from HO _ _];rfl
theorem QME:px1 d m d.ps.n=Qe d m:=rfl
theorem QJN:px2 d m p 0=px1 d m p:=List.append_nil _
theorem QBg(p i:Nat):px3 d m p i (p+1)=px2 d m p i:=by
 unfold px3
 have:(List.range (p+1)).flatMap (ZX d m p i)=[]:=by
  rw[List.flatMap_eq_nil_iff];intro q hq;have:=List.mem_range.1 hq;unfold ZX;rw[List.flatMap_eq_nil_iff];intro j _;unfold isJ;rw[decide_eq_false (show ¬ p<q by omega)];rfl
 rw[this,List.append_nil]
theorem QeN{d:Puz}{m:Int}{p i q j:Nat}(hp:p<d.ps.n)(hi:i<4)(hq:q<d.ps.n)(hj:j<4):px4 d m p i q j++isL d m p i q j <+: Qe d m:=by
 have h1:px4 d m p i q j++isL d m p i q j <+: px3 d m p i (q+1):=by
  rw[<-QVB];unfold px4;rw[List.append_assoc];refine QIi ?_;rw[<-HO];exact QEP _ (by omega)
 have h2:px3 d m p i (q+1) <+: px2 d m p (i+1):=by
  rw[<-QTC];exact QIi (QEP _ (by omega))
 have h3:px2 d m p (i+1) <+: px1 d m (p+1):=by
  rw[<-QRE];exact QIi (QEP _ (by omega))
 have h4:px1 d m (p+1) <+: Qe d m:=by
  rw[<-QME];exact QEP _ (by omega)
 exact h1.trans (h2.trans (h3.trans h4))
theorem QSO(p i q j:Nat):px4 d m p i q (j+1)=px4 d m p i q j++isL d m p i q j:=by
 unfold px4;rw[HO,List.append_assoc]
theorem jt{d:Puz}{m:Int}{p i q j:Nat}(hp:p<d.ps.n)(hi:i<4)(hq:q<d.ps.n)(hj:j<4)(h:isJ d m p i q j=true):(px4 d m p i q j).length<(Qe d m).length/\(Qe d m).getD (px4 d m p i q j).length ⟨0,0,0,0⟩=⟨p,i,q,j⟩/\(px4 d m p i q (j+1)).length=(px4 d m p i q j).length+1:=by
 obtain⟨t,ht⟩:=QeN (d:=d) (m:=m) hp hi hq hj;have e:isL d m p i q j=[⟨p,i,q,j⟩]:=by unfold isL;rw[h];rfl
 refine⟨?_,?_,?_⟩
 .rw[<-ht,e];simp
 .rw[<-ht,e,List.getD_eq_getElem?_getD,List.append_assoc,List.getElem?_append_right (qlr _)];simp
 .rw[QSO,e];simp
theorem QKG{d:Puz}{m:Int}{p i q j:Nat}(h:isJ d m p i q j=false):px4 d m p i q (j+1)=px4 d m p i q j:=by
 rw[QSO,isL,h];simp
theorem QXA(p:Qy)(a b:Edge):XU p a b=0∨XU p a b=1∨XU p a b=2:=by
 have hv:∀ a b,XT p a b=0∨XT p a b=1∨XT p a b=2:=by
  intro a b;unfold XT;split
  .split
   .exact .inl rfl
   .exact .inr (.inl rfl)
  .exact .inr (.inr rfl)
 unfold XU;split
 .split
  .exact hv _ _
  .exact .inl rfl
 .split
  .exact hv _ _
  .exact .inl rfl
theorem QSG{d:Puz}(h:d.ok=true){p i:Nat}(hp:p<d.ps.n):(K1 (d.ps.get p) i).ok=true/\d.pK.ok=true:=by
 rw[Puz.ok,qbA]at h;have hn:QP (Vd d) d.ps.n 0=none:=by simpa using h.2
 have hb:=jX hn p (Nat.zero_le _) (by omega)
 simp only[Vd,Bool.not_eq_false',qbA,QY.ok]at hb;refine⟨?_,hb.1⟩;unfold K1;split
 .exact hb.2.1
 .exact hb.2.2.1
 .exact hb.2.2.2.1
 .exact hb.2.2.2.2
theorem Qcb{d:Puz}(h:d.ok=true){p q:Nat}(i j:Nat)(hp:p<d.ps.n)(hq:q<d.ps.n):(Kq d.pK (K1 (d.ps.get p) i) (K1 (d.ps.get q) j)).2=0/\(meF d (d.ps.get p) (d.ps.get q) i j=0∨meF d (d.ps.get p) (d.ps.get q) i j=1∨meF d (d.ps.get p) (d.ps.get q) i j=2):=by
 obtain⟨h1,h2⟩:=QSG h hp (i:=i);obtain⟨h3,_⟩:=QSG h hq (i:=j);unfold meF Kq;rw[if_pos ⟨h2,h1,h3⟩];exact⟨rfl,QXA _ _ _⟩
end Go.Proofs.YtekbmehgcofnkaaGreat
namespace Go.SX
theorem QSW{Q:AV->List (Nat×Blk)->Prop}{i:Int}{f:Nat->QC}:∀{n m k:Nat},i=k->m<=k->k<=m+n->(f k).den Q->(QES i n m f).den Q
 | 0,m,k,_,h1,h2,h=>by
  obtain rfl:m=k:=by omega
  exact h
 | n+1,m,k,hi,h1,h2,h=>by
  refine QE ?_ ?_<;>intro e
  .obtain rfl:m=k:=by have:=qdt e;omega
   exact h
  .exact QSW hi (by have:=qdf e;omega) (by omega) h
theorem QTp{Q:AV->List (Nat×Blk)->Prop}{k len:Nat}{f:Nat->QC}(hk:k<len)(h:(f k).den Q):(HM (k:Int) len f).den Q:=
 QG (by simp;omega) (QSW rfl (Nat.zero_le _) (by omega) h)
end Go.SX
namespace Go.Proofs.YtekbmehgcofnkaaGreat
open Go.SX
variable (d:Puz)(m:Int)(p:Nat)
theorem QUY(hn:d.ps.n<=1000){m:Int}(hm:1<=m):(Qe d m).length<=16000000:=by
 rw[<-QCm d hn hm,zh];have:=QHS (VP m) (QIB m) (QK d).1;have h2:=(Y1 d hn).l;unfold Ks;omega
theorem QaY{Q:AV->List (Nat×Blk)->Prop}{d:Puz}{S M:List Jn}{a b p i q j:Nat}{v:Int×Int}(h2:v.2=0)(hv:v.1=0∨v.1=1∨v.1=2)(hS:v.1=2->a<S.length/\S.getD a ⟨0,0,0,0⟩=⟨p,i,q,j⟩)(hM:v.1≠0->b<M.length/\M.getD b ⟨0,0,0,0⟩=⟨p,i,q,j⟩)(g0:v.1=0->(jg d S M p i q j a b).den Q)(g1:v.1=1->(jg d S M p i q j a (i64.wrap ((b:Int)+1))).den Q)(g2:v.1=2->(jg d S M p i q j (i64.wrap ((a:Int)+1)) (i64.wrap ((b:Int)+1))).den Q):(sfX d S M a b p i q j v).den Q:=by
 have qe:∀{L:List Jn} {k:Nat},L.getD k ⟨0,0,0,0⟩=⟨p,i,q,j⟩->sfQ L k p i q j=false:=by
  intro L k h;unfold sfQ;rw[h];simp
 have tm:∀ a':Int,v.1≠0->(jg d S M p i q j a' (i64.wrap ((b:Int)+1))).den Q->(sfM d S M b p i q j a' v.1).den Q:=by
  intro a' hn h;obtain⟨m1,m2⟩:=hM hn;unfold sfM;refine QE (λ_=>?_) (λe=>absurd (by simpa using e) hn)
  refine QE (λe=>absurd (qdt e) (by omega)) (λ_=>?_)
  refine QG (by simp;omega) (QG (by simp;omega) ?_)
  exact QE (λe=>by rw[qe m2]at e;cases e) (λ_=>h)
 unfold sfX;refine QE (λe=>absurd h2 (by simpa using e)) (λ_=>?_)
 refine QE ?_ ?_<;>intro e
 .have e:v.1=2:=by simpa using e
  obtain⟨s1,s2⟩:=hS e;refine QE (λe=>absurd (qdt e) (by omega)) (λ_=>?_)
  refine QG (by simp;omega) (QG (by simp;omega) ?_)
  exact QE (λe'=>by rw[qe s2]at e';cases e') (λ_=>tm _ (by omega) (g2 e))
 .have e:v.1≠2:=by simpa using e
  rcases hv with h|h|h
  .unfold sfM;exact QE (λe'=>absurd h (by simpa using e')) (λ_=>g0 h)
  .exact tm _ (by omega) (g1 h)
  .exact absurd h e
def sfA(p i q j:Nat):Nat:=(px4 d 2 p i q j).length
def sfC(p i q j:Nat):Nat:=(px4 d 1 p i q j).length
theorem QXE(ho:d.ok=true)(hn:d.ps.n<=1000){p i q:Nat}(hp:p<d.ps.n)(hi:i<4)(hq:q<d.ps.n)(hpq:p<q):JP (λj=>Hl d (Qe d 2) (Qe d 1) (sfA d p i q j) (sfC d p i q j) p i q j) (λj=>j<=4) (λj=>4-j) (λ_ e J=>e = .exit 6/\J=ZK d (Qe d 2) (Qe d 1) (sfA d p i q 4) (sfC d p i q 4) p i q) 8 QCw [] (mkF prog JQ) (λ_=>hnd (mkF prog JQ) 2) (QU (QU (QU (QH f11 0)))):=by
 refine⟨λj g hj=>Qf (QiV d (Qe d 2) (Qe d 1) (sfA d p i q j) (sfC d p i q j) p i q j g) ?_⟩;have hj:j<=4:=hj;have l2:=QUY d hn (m:=2) (by decide)
 have l1:=QUY d hn (m:=1) (by decide)
 unfold sfT;refine QE ?_ ?_<;>intro h
 .have h:j<4:=by have:=qdt h;omega
  obtain⟨f2,fv⟩:=Qcb ho i j hp hq;have e2:meF d (d.ps.get p) (d.ps.get q) i j=2->isJ d 2 p i q j=true:=λe=>by unfold isJ;rw[e,qde hpq];rfl
  have n2:meF d (d.ps.get p) (d.ps.get q) i j≠2->isJ d 2 p i q j=false:=λe=>by unfold isJ;rw[decide_eq_false (show ¬ (2:Int)<=meF d (d.ps.get p) (d.ps.get q) i j by omega),Bool.and_false]
  have e1:meF d (d.ps.get p) (d.ps.get q) i j≠0->isJ d 1 p i q j=true:=λe=>by unfold isJ;rw[qde hpq,qde (show(1:Int)<=meF d (d.ps.get p) (d.ps.get q) i j by omega)];rfl
  have n1:meF d (d.ps.get p) (d.ps.get q) i j=0->isJ d 1 p i q j=false:=λe=>by unfold isJ;rw[e,Bool.and_eq_false_iff];exact .inr rfl
  have hw:i64.wrap ((j:Int)+1)=((j+1:Nat):Int):=(w64 (by omega) (by omega)).trans (by omega)
  have leaf:∀ aV bV:Int,aV=(sfA d p i q (j+1):Int)->bV=(sfC d p i q (j+1):Int)->(jg d (Qe d 2) (Qe d 1) p i q j aV bV).den (WE (QEG (λj=>Hl d (Qe d 2) (Qe d 1) (sfA d p i q j) (sfC d p i q j) p i q j) (λj=>j<=4) (λj=>4-j) (λ_ e J=>e = .exit 6/\J=ZK d (Qe d 2) (Qe d 1) (sfA d p i q 4) (sfC d p i q 4) p i q) 8 QCw j) (QD4 (λ_ e J=>e = .exit 6/\J=ZK d (Qe d 2) (Qe d 1) (sfA d p i q 4) (sfC d p i q 4) p i q) 8 QCw j)):=by
   intro aV bV ha hb;refine⟨j+1,h,by show 4-(j+1)<4-j;omega,λ_ _ r=>r,rfl,rfl,_,Qae d (Qe d 2) (Qe d 1) aV bV (i64.wrap ((j:Int)+1)) p i q (sfA d p i q (j+1)) (sfC d p i q (j+1)) (j+1),?_⟩
   repeat' first|with_reducible refine QL ?_ ?_|exact tv|with_reducible exact qRr|with_reducible exact hw|with_reducible exact ha|with_reducible exact hb|exact rfl|refine aI ?_ ?_
  refine QG (by simp;omega) (QTp hi (QG (by simp;omega) (QG (by simp;omega) (QTp h (QG (by simp;omega) (QG rfl ?_))))))
  refine QaY f2 fv (λe=>?_) (λe=>?_) (λe=>?_) (λe=>?_) (λe=>?_)
  .exact⟨(jt hp hi hq h (e2 e)).1,(jt hp hi hq h (e2 e)).2.1⟩
  .exact⟨(jt hp hi hq h (e1 e)).1,(jt hp hi hq h (e1 e)).2.1⟩
  .have e:meF d (d.ps.get p) (d.ps.get q) i j=0:=e;exact leaf _ _ (by unfold sfA;rw[QKG (n2 (by omega))]) (by unfold sfC;rw[QKG (n1 e)])
  .have e:meF d (d.ps.get p) (d.ps.get q) i j=1:=e;have q1:=jt hp hi hq h (e1 (by omega))
   exact leaf _ _ (by unfold sfA;rw[QKG (n2 (by omega))]) (by unfold sfC;rw[q1.2.2,w64 (by omega) (by omega)];omega)
  .have e:meF d (d.ps.get p) (d.ps.get q) i j=2:=e;have q1:=jt hp hi hq h (e1 (by omega))
   have q2:=jt hp hi hq h (e2 e);exact leaf _ _ (by unfold sfA;rw[q2.2.2,w64 (by omega) (by omega)];omega) (by unfold sfC;rw[q1.2.2,w64 (by omega) (by omega)];omega)
 .obtain rfl:j=4:=by have:=qdf h;omega
  refine⟨_,⟨rfl,rfl⟩,rfl,rfl,_,QjQ d (Qe d 2) (Qe d 1) (sfA d p i q 4) (sfC d p i q 4) p i q (sfA d p i q 4) (sfC d p i q 4),?_⟩
  repeat' first|with_reducible refine QL ?_ ?_|exact tv|with_reducible exact qRr|exact rfl|refine aI ?_ ?_
theorem QRR(p i q:Nat):px4 d m p i q 4=px4 d m p i (q+1) 0:=by rw[QVB,vk]
theorem QRw(p i:Nat):px4 d m p i d.ps.n 0=px4 d m p (i+1) (p+1) 0:=by rw[vk,vk,QTC,QBg]
theorem QQP:px4 d m p 4 (p+1) 0=px4 d m (p+1) 0 (p+1+1) 0:=by rw[vk,vk,QBg,QBg,QRE,QJN]
theorem QOk:px4 d m 0 0 (0+1) 0=[]:=by rw[vk,QBg,QJN];rfl
theorem QNB:px4 d m d.ps.n 0 (d.ps.n+1) 0=Qe d m:=by rw[vk,QBg,QJN,QME]
theorem QWc(ho:d.ok=true)(hn:d.ps.n<=1000){p i q:Nat}(hp:p<d.ps.n)(hi:i<4)(hpq:p<q)(G:Ctx)(hrd:G.rd=none)(hG:G.n<=8):Qw (mkF prog JQ) G (QGt prog d (Qe d 2) (Qe d 1) (sfA d p i q 0) (sfC d p i q 0) p i q (sfA d p i q 4) (sfC d p i q 4)) (QU (QU (QH f11 0))):=by
 refine KN (body:=QU (QU (QU (QH f11 0)))) (KF Za) hrd (by kernel_rfl) ?_
 refine Jh λhq=>?_;refine Jq (I:=λj=>Hl d (Qe d 2) (Qe d 1) (sfA d p i q j) (sfC d p i q j) p i q j) (n0:=8) (KF Za) hG (λj hj=>Qv (KF Za) 2 G _ hrd) (λj hj=>(by decide:8<=216)) ?_ (QXE d ho hn hp hi hq hpq) (s0:=0) (Nat.zero_le _) ?_
 .rintro s e J ⟨_,rfl⟩;exact(by decide:8<=216)
 .rintro e J ⟨rfl,rfl⟩;exact⟨_,qmc,trivial,rfl,rfl⟩
theorem QXv(hn:d.ps.n<=1000){p i:Nat}(hp:p<d.ps.n):JP (λq=>ZK d (Qe d 2) (Qe d 1) (sfA d p i q 0) (sfC d p i q 0) p i q) (λq=>p<q/\q<=d.ps.n) (λq=>d.ps.n-q) (λ_ e J=>e = .exit 4/\J=Ws d (Qe d 2) (Qe d 1) (sfA d p i d.ps.n 0) (sfC d p i d.ps.n 0) p i) 8 QNH [] (mkF prog JQ) (λq=>QGt prog d (Qe d 2) (Qe d 1) (sfA d p i q 0) (sfC d p i q 0) p i q (sfA d p i q 4) (sfC d p i q 4)) (QU (QU (QH f11 0))):=by
 refine⟨λq g hk=>?_⟩;obtain⟨hpq,hqn⟩:=hk;have hqn:q<=d.ps.n:=hqn;have hpq:p<q:=hpq;have ha:sfA d p i (q+1) 0=sfA d p i q 4:=by unfold sfA;rw[QRR]
 have hc:sfC d p i (q+1) 0=sfC d p i q 4:=by unfold sfC;rw[QRR]
 have et:=QWp d (Qe d 2) (Qe d 1) (sfA d p i q 0) (sfC d p i q 0) p i q (sfA d p i q 4) (sfC d p i q 4) g;refine Qf et ?_;clear et;refine QE (λb0=>?_) (λb0=>?_);have h:q<d.ps.n:=by have:=qdt b0;omega
 have hw:i64.wrap ((q:Int)+1)=((q+1:Nat):Int):=Ja h hn
 iterate 35 refine Qu (by first|exact tv|exact h|with_reducible exact qRr|exact rfl) ?_
 refine Qg λa0=>?_;refine Qj λg0=>?_
 .refine⟨q+1,⟨by omega,h⟩,by show d.ps.n-(q+1)<d.ps.n-q;omega,λ_ _ r=>r,rfl,rfl,_,Qjf d (Qe d 2) (Qe d 1) p i q (q+1) (sfA d p i q 4) (sfC d p i q 4) (sfA d p i (q+1) 0) (sfC d p i (q+1) 0),?_⟩
  rw[ha,hc]
  repeat' first|with_reducible refine QL ?_ ?_|exact tv|with_reducible exact qRr|with_reducible exact hw|exact rfl|refine aI ?_ ?_
 obtain rfl:q=d.ps.n:=by have:=qdf b0;omega
 refine⟨_,⟨rfl,rfl⟩,rfl,rfl,_,QeO d (Qe d 2) (Qe d 1) (sfA d p i d.ps.n 0) (sfC d p i d.ps.n 0) p i d.ps.n,?_⟩
 rotate_left
 all_goals (repeat' first|with_reducible refine QL ?_ ?_|exact tv|with_reducible exact qRr|exact rfl|refine aI ?_ ?_)
theorem Qaf(ho:d.ok=true)(hn:d.ps.n<=1000){p i:Nat}(hp:p<d.ps.n)(G:Ctx)(hrd:G.rd=none)(hG:G.n<=8):Qw (mkF prog JQ) G (QJO prog d (Qe d 2) (Qe d 1) (sfA d p i (p+1) 0) (sfC d p i (p+1) 0) p i (sfA d p i d.ps.n 0) (sfC d p i d.ps.n 0)) (QU (QH f11 0)):=by
 refine KN (body:=QU (QU (QH f11 0))) (KF Za) hrd (by kernel_rfl) ?_
 refine Jh λhi=>?_;refine Jq (I:=λq=>ZK d (Qe d 2) (Qe d 1) (sfA d p i q 0) (sfC d p i q 0) p i q) (n0:=8) (KF Za) hG (λq hq=>QWc d ho hn hp hi hq.1 G hrd hG) (λj hj=>(by decide:8<=216)) ?_ (QXv d hn hp) (s0:=p+1) ⟨Nat.lt_succ_self _,hp⟩ ?_
 .rintro s e J ⟨_,rfl⟩;exact(by decide:8<=216)
 .rintro e J ⟨rfl,rfl⟩;exact⟨_,qmc,trivial,rfl,rfl⟩
theorem QWV(hn:d.ps.n<=1000){p:Nat}(hp:p<d.ps.n):JP (λi=>Ws d (Qe d 2) (Qe d 1) (sfA d p i (p+1) 0) (sfC d p i (p+1) 0) p i) (λi=>i<=4) (λi=>4-i) (λ_ e J=>e = .exit 2/\J=qC d (Qe d 2) (Qe d 1) (sfA d p 4 (p+1) 0) (sfC d p 4 (p+1) 0) p) 8 QLe [] (mkF prog JQ) (λi=>QJO prog d (Qe d 2) (Qe d 1) (sfA d p i (p+1) 0) (sfC d p i (p+1) 0) p i (sfA d p i d.ps.n 0) (sfC d p i d.ps.n 0)) (QU (QH f11 0)):=by
 refine⟨λi g hk=>?_⟩;have hk:i<=4:=hk;have ha:sfA d p (i+1) (p+1) 0=sfA d p i d.ps.n 0:=by unfold sfA;rw[QRw]
 have hc:sfC d p (i+1) (p+1) 0=sfC d p i d.ps.n 0:=by unfold sfC;rw[QRw]
 have hp1:i64.wrap ((p:Int)+1)=((p+1:Nat):Int):=Ja hp hn;have et:=Qaj d (Qe d 2) (Qe d 1) (sfA d p i (p+1) 0) (sfC d p i (p+1) 0) p i (sfA d p i d.ps.n 0) (sfC d p i d.ps.n 0) g;refine Qf et ?_;clear et;refine QE (λb0=>?_) (λb0=>?_);have h:i<4:=by have:=qdt b0;omega
 have hw:i64.wrap ((i:Int)+1)=((i+1:Nat):Int):=(w64 (by omega) (by omega)).trans (by omega)
 iterate 34 refine Qu (by first|exact tv|exact h|exact hp1|with_reducible exact qRr|exact rfl) ?_
 refine Qg λa0=>?_;refine Qj λg0=>?_
 .refine⟨i+1,h,by show 4-(i+1)<4-i;omega,λ_ _ r=>r,rfl,rfl,_,Qb8 d (Qe d 2) (Qe d 1) p i (i+1) (sfA d p i d.ps.n 0) (sfC d p i d.ps.n 0) (sfA d p (i+1) (p+1) 0) (sfC d p (i+1) (p+1) 0),?_⟩
  rw[ha,hc]
  repeat' first|with_reducible refine QL ?_ ?_|exact tv|with_reducible exact qRr|with_reducible exact hw|exact rfl|refine aI ?_ ?_
 obtain rfl:i=4:=by have:=qdf b0;omega
 refine⟨_,⟨rfl,rfl⟩,rfl,rfl,_,Qbp d (Qe d 2) (Qe d 1) (sfA d p 4 (p+1) 0) (sfC d p 4 (p+1) 0) p 4,?_⟩
 rotate_left
 all_goals (repeat' first|with_reducible refine QL ?_ ?_|exact tv|with_reducible exact qRr|exact rfl|refine aI ?_ ?_)
theorem Qgp(ho:d.ok=true)(hn:d.ps.n<=1000){p:Nat}(G:Ctx)(hrd:G.rd=none)(hG:G.n<=8):Qw (mkF prog JQ) G (QGQ prog d (Qe d 2) (Qe d 1) (sfA d p 0 (p+1) 0) (sfC d p 0 (p+1) 0) p (sfA d p 4 (p+1) 0) (sfC d p 4 (p+1) 0)) (QH f11 0):=by
 refine KN (body:=QU (QH f11 0)) (KF Za) hrd (by kernel_rfl) ?_
 refine Jh λhp=>?_;refine Jq (I:=λi=>Ws d (Qe d 2) (Qe d 1) (sfA d p i (p+1) 0) (sfC d p i (p+1) 0) p i) (n0:=8) (KF Za) hG (λi hi=>Qaf d ho hn hp G hrd hG) (λj hj=>(by decide:8<=216)) ?_ (QWV d hn hp) (s0:=0) (Nat.zero_le _) ?_
 .rintro s e J ⟨_,rfl⟩;exact(by decide:8<=216)
 .rintro e J ⟨rfl,rfl⟩;exact⟨_,qmc,trivial,rfl,rfl⟩
theorem QfG(hn:d.ps.n<=1000):JP (λp=>qC d (Qe d 2) (Qe d 1) (sfA d p 0 (p+1) 0) (sfC d p 0 (p+1) 0) p) (λp=>p<=d.ps.n) (λp=>d.ps.n-p) (λ_ e J=>e = .exit 0/\J=QEl (Qe d 2) (Qe d 1) (Qe d 2).length (Qe d 1).length) 8 QKq [] (mkF prog JQ) (λp=>QGQ prog d (Qe d 2) (Qe d 1) (sfA d p 0 (p+1) 0) (sfC d p 0 (p+1) 0) p (sfA d p 4 (p+1) 0) (sfC d p 4 (p+1) 0)) (QH f11 0):=by
 refine⟨λp g hk=>?_⟩;have hk:p<=d.ps.n:=hk;have ha:sfA d (p+1) 0 (p+1+1) 0=sfA d p 4 (p+1) 0:=by unfold sfA;rw[QQP]
 have hc:sfC d (p+1) 0 (p+1+1) 0=sfC d p 4 (p+1) 0:=by unfold sfC;rw[QQP]
 have et:=Qar d (Qe d 2) (Qe d 1) (sfA d p 0 (p+1) 0) (sfC d p 0 (p+1) 0) p (sfA d p 4 (p+1) 0) (sfC d p 4 (p+1) 0) g;refine Qf et ?_;clear et;refine QE (λb0=>?_) (λb0=>?_);have h:p<d.ps.n:=by have:=qdt b0;omega
 have hw:i64.wrap ((p:Int)+1)=((p+1:Nat):Int):=Ja h hn
 iterate 32 refine Qu (by first|exact tv|exact h|with_reducible exact qRr|exact rfl) ?_
 refine Qg λa0=>?_;refine Qj λg0=>?_
 .refine⟨p+1,h,by show d.ps.n-(p+1)<d.ps.n-p;omega,λ_ _ r=>r,rfl,rfl,_,QY4 d (Qe d 2) (Qe d 1) p (p+1) (sfA d p 4 (p+1) 0) (sfC d p 4 (p+1) 0) (sfA d (p+1) 0 (p+1+1) 0) (sfC d (p+1) 0 (p+1+1) 0),?_⟩
  rw[ha,hc]
  repeat' first|with_reducible refine QL ?_ ?_|exact tv|with_reducible exact qRr|with_reducible exact hw|exact rfl|refine aI ?_ ?_
 obtain rfl:p=d.ps.n:=by have:=qdf b0;omega
 have ea:sfA d d.ps.n 0 (d.ps.n+1) 0=(Qe d 2).length:=by unfold sfA;rw[QNB]
 have ec:sfC d d.ps.n 0 (d.ps.n+1) 0=(Qe d 1).length:=by unfold sfC;rw[QNB]
 rw[ea,ec];refine⟨_,⟨rfl,rfl⟩,rfl,rfl,_,Qcp d (Qe d 2) (Qe d 1) (Qe d 2).length (Qe d 1).length d.ps.n,?_⟩
 rotate_left
 all_goals (repeat' first|with_reducible refine QL ?_ ?_|exact tv|with_reducible exact qRr|exact rfl|refine aI ?_ ?_)
abbrev sfL:Code->St->(Ex->St->QC)->QC:=λ_=>JT (d.ok=true) (KC 8 [] (qC d (KP d).1 (KP d).2.1 (0:Nat) (0:Nat) (0:Nat)) [(True,.exit 0,QEl (KP d).1 (KP d).2.1 (KP d).1.length (KP d).2.1.length)])
theorem Qhu(G:Ctx)(hrd:G.rd=none)(hG:G.n=8):Qw (mkF prog JQ) G { hnd (mkF prog JQ) 2 with loop:=sfL d } (Qk f11):=by
 refine KN (body:=QH f11 0) (KF Za) hrd (by kernel_rfl) ?_
 refine Jh λho=>?_;have hn:d.ps.n<=1000:=Nat.le_trans (ZA (Y4 ho)).2.2 (by decide)
 have e:KP d=(Qe d 2,Qe d 1,0):=by unfold KP;rw[ho];rfl
 rw[e];have h0:sfA d 0 0 (0+1) 0=0:=by unfold sfA;rw[QOk];rfl
 have c0:sfC d 0 0 (0+1) 0=0:=by unfold sfC;rw[QOk];rfl
 have key:=Jq (I:=λp=>qC d (Qe d 2) (Qe d 1) (sfA d p 0 (p+1) 0) (sfC d p 0 (p+1) 0) p) (n0:=8) (ids':=[]) (X:=[(True,.exit 0,QEl (Qe d 2) (Qe d 1) (Qe d 2).length (Qe d 1).length)]) (KF Za) (by omega) (λp hp=>Qgp d ho hn G hrd (by omega)) (λj hj=>(by decide:8<=216)) (by rintro s e J ⟨_,rfl⟩;exact(by decide:8<=216)) (QfG d hn) (s0:=0) (Nat.zero_le _) (by
  rintro e J ⟨rfl,rfl⟩;exact⟨_,qmc,trivial,rfl,rfl⟩)
 simp only[h0,c0]at key;exact key
def QEM:WF (Puz×Unit):=λ|(d,_)=>(true,.bool false true,[])
theorem Qgo :Kd (mkF prog JQ) { hnd (mkF prog JQ) 2 with loop:=sfL d } f11 (Qb.vals 0 ((d,()):Puz×Unit)) (Qb.blks 0 ((d,()):Puz×Unit)) 8 = .need (decide (d.ps.n<=d.ps.n)&&(true&&true)&&true) (.br (Zo d (9:Int)) (.leaf (.bool true true) ([])) (.need (decide (d.ps.n<=d.ps.n)&&true&&decide (d.ps.n<=1000)) (.br ((KP d).2.2 != 0) (.br ((↑(KP d).1.length:Int)==0) (.br ((↑(KP d).2.1.length:Int)==0) (.br ((KP d).2.2==1) (.need (decide (d.ps.n<=d.ps.n)&&true&&decide (d.ps.n<=1000)) (.br (!d.ok) (.leaf (.bool true true) ([])) (.leaf (.bool true false) ([])))) (.leaf (.bool true false) ([]))) (.leaf (.bool true false) ([]))) (.leaf (.bool true false) ([]))) (.need (decide (d.ps.n<=d.ps.n)&&true&&decide (d.ps.n<=1000)) (.br (!d.ok) (.br ((↑(KP d).1.length:Int)==0) (.br ((↑(KP d).2.1.length:Int)==0) (.br ((KP d).2.2==1) (.need (decide (d.ps.n<=d.ps.n)&&true&&decide (d.ps.n<=1000)) (.br (!d.ok) (.leaf (.bool true true) ([])) (.leaf (.bool true false) ([])))) (.leaf (.bool true false) ([]))) (.leaf (.bool true false) ([]))) (.leaf (.bool true false) ([]))) (.ak ([d.ok=true,0=0,0=0,0=0,(KP d).1.length=(KP d).1.length,cO=cO,0=0,(KP d).2.1.length=(KP d).2.1.length,cO=cO,(0:Int)=0,(0:Int)=0,(d.ps.n:Int)=(d.ps.n:Int),(0:Int)=0,(KP d).1.length<=(KP d).1.length,QB 4 (KP d).1.length (λi=>QA.enc ((KP d).1.getD i (Jn.mk (0:Int) (0:Int) (0:Int) (0:Int)))) λi=>QA.enc ((KP d).1.getD i (Jn.mk (0:Int) (0:Int) (0:Int) (0:Int))),(KP d).2.1.length<=(KP d).2.1.length,QB 4 (KP d).2.1.length (λi=>QA.enc ((KP d).2.1.getD i (Jn.mk (0:Int) (0:Int) (0:Int) (0:Int)))) λi=>QA.enc ((KP d).2.1.getD i (Jn.mk (0:Int) (0:Int) (0:Int) (0:Int)))]++waa d++([cO=cO]++wad d)) (.asm (True) (.all (λ(g0:Nat->Value)=>.br ((↑(KP d).1.length:Int)==(↑(KP d).1.length:Int)) (.br ((↑(KP d).2.1.length:Int)==(↑(KP d).2.1.length:Int)) (.leaf (.bool true true) ([])) (.leaf (.bool true false) ([]))) (.leaf (.bool true false) ([]))))))))))):=by kernel_rfl
theorem QWm:JA (mkF prog JQ) (Qk f11) 8 QEM (λx_=>{ hnd (mkF prog JQ) 2 with loop:=sfL x_.1 }):=by
 refine⟨?_⟩;rintro⟨d,⟨⟩⟩ hp G h1 h2;exact Qhu d G h1 h2
theorem Qjc:JB (mkF prog JQ) f11 8 QEM (λx_=>{ hnd (mkF prog JQ) 2 with loop:=sfL x_.1 }):=by
 refine⟨?_⟩;rintro⟨d,⟨⟩⟩ hp;refine⟨⟨rfl,by simp[QEM],rfl⟩,⟨?_⟩⟩
 rw[Qgo d];simp only[QEM]at hp;have j0:d.ok=false->KP d=([],[],1):=λh=>by unfold KP;rw[h];rfl
 have j1:d.ok=true->KP d=(Qe d 2,Qe d 1,0):=λh=>by unfold KP;rw[h];rfl
 refine QG ?_ ?_;rotate_left;refine QE ?_ ?_<;>intro b0
 .exact KE rfl rfl
 have hn:¬ ((d.ps.n:Int)>14):=λh=>by rw[Zo,qde h]at b0;cases b0
 refine QG ?_ ?_;rotate_left;refine QE ?_ ?_<;>intro b1
 have ho:d.ok=false:=by
  cases h:d.ok with
  | false=>rfl
  | true=>rw[j1 h]at b1;simp at b1
 refine QE (λb2=>?_) (λb2=>?_);refine QE (λb3=>?_) (λb3=>?_);refine QE (λb4=>?_) (λb4=>?_);refine QG ?_ ?_;rotate_left;refine QE ?_ ?_<;>intro b5
 .exact KE rfl rfl
 .rw[ho]at b5;cases b5
 .rw[j0 ho]at b4;simp at b4
 .rw[j0 ho]at b3;simp at b3
 .rw[j0 ho]at b2;simp at b2
 have ho:d.ok=true:=by
  cases h:d.ok with
  | true=>rfl
  | false=>rw[j0 h]at b1;simp at b1
 refine QG ?_ ?_;rotate_left;refine QE ?_ ?_<;>intro b6
 .rw[ho]at b6;cases b6
 iterate 30 refine Qu (by first|exact tv|exact ho|with_reducible exact qRr|exact rfl) ?_
 refine Qg λa0=>?_;refine Qj λg0=>?_;refine QE (λb11=>?_) (λb11=>?_);refine QE ?_ ?_<;>intro b12
 .exact KE rfl rfl
 .simp at b12
 .simp at b11
 all_goals first|rfl|(simp;done)|(simp;omega)
