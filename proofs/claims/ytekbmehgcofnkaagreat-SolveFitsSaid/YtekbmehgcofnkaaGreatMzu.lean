/- - -/
import Derived.Test.YtekbmehgcofnkaaGreatMzs
import Derived.Test.YtekbmehgcofnkaaGreatMzt
import Derived.Test.YtekbmehgcofnkaaGreatMv
open Go.Proofs.Tryz
open Go.IntKind (i64)
set_option maxRecDepth 100000
namespace Go.SX
open Go Go.RowKit Go.Proofs.YtekbmehgcofnkaaGreat
def QQh(fc:FC):FC:=λargs nid _=>fc args nid (XO (AV.idsFromL 0 args) [])
theorem QUb{P:Program}{f:FuncId}{fc:FC}(h:QR P f fc):QR P f (QQh fc):=
 ⟨h.1,λargs nid _ r w lk blks eff hH ha hv he hp=>h.2 args nid (XO (AV.idsFromL 0 args) []) r w lk blks eff hH ha hv he hp⟩
end Go.SX
namespace Go.Proofs.YtekbmehgcofnkaaGreat
open Go.SX
def JB:Tab:=Qc (Qc QJZ 16 QFO) 40 (QQh QPK)
theorem ZJ:Qe JB:=(Qab.add QZo).add (QUb Qe0)
variable {α:Type}(d:Puz)(M:List Jn)(m:Int)(S:List Jn)(p:Nat)
def sfB(S M:List Jn):List (Nat×Blk):=[rwJ true 48 S,rwJ true 49 M,(8,.cells 0 28 (KR d))]++Ql.blk 0 d.ps
def QMM(S M:List Jn)(a b p:Nat):List (Nat×AV):=[(1,.ptr 8 0 0),(3,.slz 48 0 S.length (.of 0)),(4,.slz 49 0 M.length (.of 0)),(6,.int false .i64 a),(7,.int false .i64 b),(53,.int false .i64 d.ps.n),(54,.int false .i64 p)]
def QSa(S M:List Jn)(a b p i:Nat):List (Nat×AV):=QMM d S M a b p++[(8,.int false .i64 p),(57,.int false .i64 i)]
def QKi(S M:List Jn)(a b p i q:Nat):List (Nat×AV):=QSa d S M a b p i++[(9,.int false .i64 i),(10,.int false .i64 q)]
def Wk(S M:List Jn)(a b p:Nat):JSt:=⟨149,QMM d S M a b p,sfB d S M,216⟩
def qB(S M:List Jn)(a b p i:Nat):JSt:=⟨149,QSa d S M a b p i,sfB d S M,216⟩
def Ys(S M:List Jn)(a b p i q:Nat):JSt:=⟨149,QKi d S M a b p i q,sfB d S M,216⟩
def GS(S M:List Jn)(a b p i q j:Nat):JSt:=⟨149,QKi d S M a b p i q++[(69,.int false .i64 j)],sfB d S M,216⟩
def QB1(S M:List Jn)(a b:Nat):JSt:=⟨149,[(3,.slz 48 0 S.length (.of 0)),(4,.slz 49 0 M.length (.of 0)),(6,.int false .i64 a),(7,.int false .i64 b)],[rwJ true 48 S,rwJ true 49 M],216⟩
def QKo:Ex->List Nat
 | .normal=>[1,3,4,6,7,53,54]
 | .exit _=>[3,4,6,7]
 | .ret=>[2]
def QPt:Ex->List Nat
 | .normal=>[1,3,4,6,7,53,54,8,57]
 | .exit _=>[1,3,4,6,7,53,54]
 | .ret=>[2]
def QRh:Ex->List Nat
 | .normal=>[1,3,4,6,7,53,54,8,57,9,10]
 | .exit _=>[1,3,4,6,7,53,54,8,57]
 | .ret=>[2]
def QEo:Ex->List Nat
 | .normal=>[1,3,4,6,7,53,54,8,57,9,10,69]
 | .exit _=>[1,3,4,6,7,53,54,8,57,9,10]
 | .ret=>[2]
def sfH(S M:List Jn):List (Nat×Blk):=[(8,.cells 0 28 (KR d)),rwJ true 48 S,rwJ true 49 M]++Ql.blk 0 d.ps
def sfV(S M:List Jn)(a b:Int)(p i q:Nat):List AV:=[.ptr 8 0 0,.slz 48 0 S.length (.of 0),.slz 49 0 M.length (.of 0),.int false .i64 a,.int false .i64 b,.int false .i64 d.ps.n,.int false .i64 p,.int false .i64 p,.int false .i64 i,.int false .i64 i,.int false .i64 q]
def jE(S M:List Jn)(p i q j:Nat)(a b:Int):QC := .leaf (.tup ([.nilp,.ptr 149 0 0]++(sfV d S M a b p i q++[.int false .i64 (i64.wrap ((j:Int)+1))]))) (sfH d S M)
def HU:QC := .leaf (.tup [.nili,.ptr 149 0 0,.bool true false]) []
def sfQ(a p i q j:Nat):Bool := !((S.getD a ⟨0,0,0,0⟩).a==(p:Int)&&((S.getD a ⟨0,0,0,0⟩).i==(i:Int)&&((S.getD a ⟨0,0,0,0⟩).b==(q:Int)&&((S.getD a ⟨0,0,0,0⟩).j==(j:Int)&&true))))
def sfM(S M:List Jn)(b p i q j:Nat)(a' n:Int):QC := .br (n != 0) (.br (decide ((b:Int)≥(M.length:Int))) HU (.need (decide ((0:Int)<=(b:Int)/\(b:Int)<(M.length:Int))&&decide (M.length<=M.length)) (.need (decide (b<M.length)) (.br (sfQ M b p i q j) HU (jE d S M p i q j a' (i64.wrap ((b:Int)+1))))))) (jE d S M p i q j a' b)
def sfX(S M:List Jn)(a b p i q j:Nat)(v:Int×Int):QC := .br (v.2 != 0) HU (.br (v.1==2) (.br (decide ((a:Int)≥(S.length:Int))) HU (.need (decide ((0:Int)<=(a:Int)/\(a:Int)<(S.length:Int))&&decide (S.length<=S.length)) (.need (decide (a<S.length)) (.br (sfQ S a p i q j) HU (sfM d S M b p i q j (i64.wrap ((a:Int)+1)) v.1))))) (sfM d S M b p i q j a v.1))
def sfT(S M:List Jn)(a b p i q j:Nat):QC := .br (decide ((j:Int)<4))
 (.need (decide ((0:Int)<=(p:Int)/\(p:Int)<(d.ps.n:Int))&&decide (d.ps.n<=d.ps.n)) (vr i 4 λs=>.need (decide (p<d.ps.n)) (.need (decide ((0:Int)<=(q:Int)/\(q:Int)<(d.ps.n:Int))&&decide (d.ps.n<=d.ps.n)) (vr j 4 λt=>.need (decide (q<d.ps.n)) (.need true (sfX d S M a b p i q j (JJ d.pK (Vs (d.ps.get p) s) (Vs (d.ps.get q) t))))))))
 (.leaf (.tup ([.ptr 6 0 0,.ptr 149 0 0]++sfV d S M a b p i q)) (sfH d S M))
theorem QaD(S M:List Jn)(a b p i q j:Nat)(g:Nat->Value):exec (mkF prog JB) (hnd (mkF prog JB) 2) (QS (QS (QS (QJ f11 0)))) (JSt.inst (GS d S M a b p i q j) g) (Q9 [] QEo)=sfT d S M a b p i q j:=by kernel_rfl
noncomputable abbrev waY(M:List Jn)(S:List Jn):List Prop:=[S.length<=S.length,QB (4:Nat) S.length (λi=>QA.enc (S.getD i (Jn.mk (0:Int) (0:Int) (0:Int) (0:Int)))) λi=>QA.enc (S.getD i (Jn.mk (0:Int) (0:Int) (0:Int) (0:Int))),M.length<=M.length,QB (4:Nat) M.length (λi=>QA.enc (M.getD i (Jn.mk (0:Int) (0:Int) (0:Int) (0:Int)))) λi=>QA.enc (M.getD i (Jn.mk (0:Int) (0:Int) (0:Int) (0:Int)))]
abbrev wcW(M:List Jn)(S:List Jn):List Prop:=[0=0,0=0,0=0,S.length=S.length,cO=cO,0=0,M.length=M.length,cO=cO]
theorem QbO(S M:List Jn)(a b jv:Int)(p i q a' b' j':Nat):QG 8 (sfV d S M a b p i q++[vi jv]) (sfH d S M) (GS d S M a' b' p i q j')=( some (((wcW M S++[a=(↑a':Int),b=(↑b':Int),(↑d.ps.n:Int)=(↑d.ps.n:Int),(↑p:Int)=(↑p:Int),(↑p:Int)=(↑p:Int),(↑i:Int)=(↑i:Int),(↑i:Int)=(↑i:Int),(↑q:Int)=(↑q:Int),jv=(↑j':Int)])++waY M S)++wab d++[cO=cO,d.ps.n<=d.ps.n,QB (28:Nat) d.ps.n (λi=>QA.enc (d.ps.get i)) λi=>QA.enc (d.ps.get i)])):=by kernel_rfl
theorem Qdl(S M:List Jn)(a b:Nat)(p i q a' b':Nat):QG 8 (sfV d S M a b p i q) (sfH d S M) (Ys d S M a' b' p i q)=( some (((wcW M S++[(↑a:Int)=(↑a':Int),(↑b:Int)=(↑b':Int),(↑d.ps.n:Int)=(↑d.ps.n:Int),(↑p:Int)=(↑p:Int),(↑p:Int)=(↑p:Int),(↑i:Int)=(↑i:Int),(↑i:Int)=(↑i:Int),(↑q:Int)=(↑q:Int)])++waY M S)++wab d++[cO=cO,d.ps.n<=d.ps.n,QB (28:Nat) d.ps.n (λi=>QA.enc (d.ps.get i)) λi=>QA.enc (d.ps.get i)])):=by kernel_rfl
abbrev QE0(P:Program)(d:Puz)(S M:List Jn)(a b p i q a' b':Nat):Hnd:={ hnd (mkF P JB) 2 with loop:=λ_=>JI (q<d.ps.n) (KE 8 [] (GS d S M a b p i q 0) [(True,.exit 6,Ys d S M a' b' p i q)]) }
abbrev QIo(P:Program)(d:Puz)(S M:List Jn)(a b p i a' b':Nat):Hnd:={ hnd (mkF P JB) 2 with loop:=λ_=>JI (i<4) (KE 8 [] (Ys d S M a b p i (p+1)) [(True,.exit 4,qB d S M a' b' p i)]) }
abbrev QIc(P:Program)(d:Puz)(S M:List Jn)(a b p a' b':Nat):Hnd:={ hnd (mkF P JB) 2 with loop:=λ_=>JI (p<d.ps.n) (KE 8 [] (qB d S M a b p 0) [(True,.exit 2,Wk d S M a' b' p)]) }
noncomputable abbrev QOU:Nat×Blk:=
  (8,.cells 0 28 (waf d))
abbrev zD:List CK:=
  (wbk)
abbrev QP3:List CK:=
  (List.append (waa) ((List.append (waG) ((List.append (wbk) ([.int .i64]))))))
noncomputable abbrev wbU(M:List Jn)(S:List Jn)(d:Puz):List (Nat×Blk):=[(48,.rowz true 67 zD S.length λi=>QA.enc (S.getD i (Jn.mk (0:Int) (0:Int) (0:Int) (0:Int)))),(49,.rowz true 67 zD M.length λi=>QA.enc (M.getD
  i (Jn.mk (0:Int) (0:Int) (0:Int) (0:Int)))),(0,.frz QP3 d.ps.n λi=>QA.enc (d.ps.get i))]
noncomputable abbrev WK(d:Puz)(i:Nat):List (Nat×Blk):=
  ((QOU d)::wbU M S d)
abbrev wao(M:List Jn)(S:List Jn):List Prop:=[QB 4 S.length (λi=>QA.enc (S.getD i (Jn.mk (0:Int) (0:Int) (0:Int) (0:Int)))) λi=>QA.enc (S.getD i (Jn.mk (0:Int) (0:Int) (0:Int) (0:Int))),M.length<=M.length,QB 4 M.length (λi=>QA.enc (M.getD i (Jn.mk (0:Int) (0:Int) (0:Int) (0:Int)))) λi=>QA.enc (M.getD i (Jn.mk (0:Int) (0:Int) (0:Int) (0:Int)))]
noncomputable abbrev wbf(M:List Jn)(S:List Jn):List AV:=[.ptr 8 0 0, .slz 48 0 S.length cO,.slz 49 0 M.length cO]
theorem QYC(S M:List Jn)(a b p i q a' b':Nat)(g:Nat->Value):exec (mkF prog JB) (QE0 prog d S M a b p i q a' b') (QS (QS (QJ f11 0))) (JSt.inst (Ys d S M a b p i q) g) (Q9 [] QRh) = .br (decide ((q:Int)<(d.ps.n:Int))) (.ak (((([q<d.ps.n]++wcW M S++[(a:Int)=(a:Int),(b:Int)=(b:Int)])++waV d p++[(i:Int)=(i:Int),(i:Int)=(i:Int),(q:Int)=(q:Int),(0:Int)=0,S.length<=S.length])++wao M S)++wab d++([cO=cO]++wae d)) (.asm (True) (.all (λ(g0:Nat->Value)=>.leaf (.tup (.nilp::.ptr 149 0 0::List.append (wbf M S) ((vi (a':Int)::vi (b':Int)::List.append (wcp d p) ([vi (i:Int),vi (i:Int),vi (i64.wrap ((q:Int)+1))]))))) ((WK M S d i)))))) (.leaf (.tup (.ptr 4 0 0::.ptr 149 0 0::List.append (wbf M S) ((vi (a:Int)::vi (b:Int)::List.append (wcp d p) ([vi (i:Int)]))))) ((WK M S d i))):=by kernel_rfl
abbrev Hz:List Prop:=
  (wcW M S)
abbrev QDl(d:Puz)(i:Nat):List Prop:=
  ((wao M S)++wab d++([cO=cO]++wae d))
theorem QYw(S M:List Jn)(p i q q' a' b' a2 b2:Nat):QG 8 (List.append (wbf M S) ((vi (a':Int)::vi (b':Int)::List.append (wcp d p) ([vi (i:Int),vi (i:Int),vi (i64.wrap ((q:Int)+1))])))) ((WK M S d i)) (Ys d S M a2 b2 p i q')=(some ((Hz M S)++([(a':Int)=(a2:Int),(b':Int)=(b2:Int)]++waV d p++[(i:Int)=(i:Int),(i:Int)=(i:Int),i64.wrap ((q:Int)+1)=(q':Int),S.length<=S.length])++(QDl M S d i))):=by kernel_rfl
theorem Qay(S M:List Jn)(a b p i q:Nat):QG 8 (List.append (wbf M S) ((vi (a:Int)::vi (b:Int)::List.append (wcp d p) ([vi (i:Int)])))) ((WK M S d i)) (qB d S M a b p i)=(some ((Hz M S)++([(a:Int)=(a:Int),(b:Int)=(b:Int)]++waV d p++[(i:Int)=(i:Int),S.length<=S.length])++(QDl M S d i))):=by kernel_rfl
theorem Qeo(S M:List Jn)(a b p i a' b':Nat)(g:Nat->Value):exec (mkF prog JB) (QIo prog d S M a b p i a' b') (QS (QJ f11 0)) (JSt.inst (qB d S M a b p i) g) (Q9 [] QPt) = .br (decide ((i:Int)<4)) (.ak (((([i<4]++wcW M S++[(a:Int)=(a:Int),(b:Int)=(b:Int)])++waV d p++[(i:Int)=(i:Int),(i:Int)=(i:Int),i64.wrap ((p:Int)+1)=(↑(p+1):Int),S.length<=S.length])++wao M S)++wab d++([cO=cO]++wae d)) (.asm (True) (.all (λ(g0:Nat->Value)=>.leaf (.tup (.nilp::.ptr 149 0 0::List.append (wbf M S) ((vi (a':Int)::vi (b':Int)::List.append (wcp d p) ([vi (i64.wrap ((i:Int)+1))]))))) ((WK M S d i)))))) (.leaf (.tup (.ptr 2 0 0::.ptr 149 0 0::List.append (wbf M S) ([vi (a:Int),vi (b:Int),vi (d.ps.n:Int),vi (p:Int)]))) ((WK M S d i))):=by kernel_rfl
theorem QeX(S M:List Jn)(p i i' a' b' a2 b2:Nat):QG 8 (List.append (wbf M S) ((vi (a':Int)::vi (b':Int)::List.append (wcp d p) ([vi (i64.wrap ((i:Int)+1))])))) ((WK M S d i)) (qB d S M a2 b2 p i')=(some ((Hz M S)++([(a':Int)=(a2:Int),(b':Int)=(b2:Int)]++waV d p++[i64.wrap ((i:Int)+1)=(i':Int),S.length<=S.length]) ++ (QDl M S d i))):=by kernel_rfl
theorem QYH(S M:List Jn)(a b p i:Nat):QG 8 (List.append (wbf M S) ([vi (a:Int),vi (b:Int),vi (d.ps.n:Int),vi (p:Int)])) ((WK M S d i)) (Wk d S M a b p)=(some ((Hz M S)++([(a:Int)=(a:Int),(b:Int)=(b:Int)]++wcQ d p++[S.length<=S.length])++(QDl M S d i))):=by kernel_rfl
noncomputable abbrev QMF(d:Puz):List (Nat×Blk):=
  ((QOU d)::wbU M S d)
theorem Qe8(S M:List Jn)(a b p a' b':Nat)(g:Nat->Value):exec (mkF prog JB) (QIc prog d S M a b p a' b') (QJ f11 0) (JSt.inst (Wk d S M a b p) g) (Q9 [] QKo) = .br (decide ((p:Int)<(d.ps.n:Int))) (.ak (((([p<d.ps.n]++wcW M S++[(a:Int)=(a:Int),(b:Int)=(b:Int)])++waV d p++[(0:Int)=0,S.length<=S.length])++wao M S)++wab d++([cO=cO]++wae d)) (.asm (True) (.all (λ(g0:Nat->Value)=>.leaf (.tup (.nilp::.ptr 149 0 0::List.append (wbf M S) ([vi (a':Int),vi (b':Int),vi (d.ps.n:Int),vi (i64.wrap ((p:Int)+1))]))) ((QMF M S d)))))) (.leaf (.tup [.ptr 0 0 0,.ptr 149 0 0,.slz 48 0 S.length cO,.slz 49 0 M.length cO,vi (a:Int),vi (b:Int)]) ([(48,.rowz true 67 zD S.length λi=>QA.enc (S.getD i (Jn.mk (0:Int) (0:Int) (0:Int) (0:Int)))),(49,.rowz true 67 zD M.length λi=>QA.enc (M.getD i (Jn.mk (0:Int) (0:Int) (0:Int) (0:Int))))])):=by kernel_rfl
theorem QfI(S M:List Jn)(p p' a' b' a2 b2:Nat):QG 8 (List.append (wbf M S) ([vi (a':Int),vi (b':Int),vi (d.ps.n:Int),vi (i64.wrap ((p:Int)+1))])) ((QMF M S d)) (Wk d S M a2 b2 p')=(some ((Hz M S)++(([(a':Int)=(a2:Int),(b':Int)=(b2:Int),(d.ps.n:Int)=(d.ps.n:Int),i64.wrap ((p:Int)+1)=(p':Int),S.length<=S.length]++wao M S)++wab d++([cO=cO]++wae d)))):=by kernel_rfl
theorem QWM(d:Puz)(S M:List Jn)(a b p:Nat):QG 8 [AV.slz (48:Nat) (0:Nat) S.length cO,AV.slz (49:Nat) (0:Nat) M.length cO,vi (↑a:Int),vi (↑b:Int)] ([((48:Nat),Blk.rowz true (67:Nat) [CK.int i64,CK.int i64,CK.int i64,CK.int i64] S.length λi=>QA.enc (S.getD i (Jn.mk (0:Int) (0:Int) (0:Int) (0:Int)))),((49:Nat),Blk.rowz true (67:Nat) [CK.int i64,CK.int i64,CK.int i64,CK.int i64] M.length λi=>QA.enc (M.getD i (Jn.mk (0:Int) (0:Int) (0:Int) (0:Int))))]) (QB1 S M a b)=( some ([0=0,S.length=S.length,cO=cO,0=0,M.length=M.length,cO=cO,(↑a:Int)=(↑a:Int),(↑b:Int)=(↑b:Int)]++waY M S)):=by kernel_rfl
theorem HF(f:Nat->List α)(k:Nat):(List.range (k+1)).flatMap f=(List.range k).flatMap f++f k:=by
 rw[List.range_succ,List.flatMap_append];simp
theorem QDU(f:Nat->List α){a b:Nat}(h:a<=b):(List.range a).flatMap f <+: (List.range b).flatMap f:=by
 obtain⟨k,rfl⟩:=Nat.exists_eq_add_of_le h;clear h
 induction k with
 | zero=>exact List.prefix_refl _
 | succ k ih=>
  rw[<-Nat.add_assoc,HF];exact ih.trans (List.prefix_append _ _)
theorem QG6{a b c:List α}(h:b <+: c):a++b <+: a++c:=by
 obtain⟨t,rfl⟩:=h;exact⟨t,by rw[List.append_assoc]⟩
def isL(p i q j:Nat):List Jn:=cond (isJ d m p i q j) [⟨p,i,q,j⟩] []
def px1:List Jn:=(List.range p).flatMap (qN d m)
def px2(p i:Nat):List Jn:=px1 d m p++(List.range i).flatMap (Wl d m p)
def px3(p i q:Nat):List Jn:=px2 d m p i++(List.range q).flatMap (ZF d m p i)
def px4(p i q j:Nat):List Jn:=px3 d m p i q++(List.range j).flatMap (isL d m p i q)
theorem jd(p i q:Nat):px4 d m p i q 0=px3 d m p i q:=List.append_nil _
theorem QKI(p i q:Nat):px4 d m p i q 4=px3 d m p i (q+1):=by
 unfold px4 px3;rw[show(List.range (q+1)).flatMap (ZF d m p i)=(List.range q).flatMap (ZF d m p i)++ZF d m p i q from HF _ _,<-List.append_assoc];rfl
theorem QNI(p i:Nat):px3 d m p i d.ps.n=px2 d m p (i+1):=by
 unfold px3 px2;rw[show(List.range (i+1)).flatMap (Wl d m p)=(List.range i).flatMap (Wl d m p)++Wl d m p i from HF _ _,<-List.append_assoc];rfl
theorem QP1:px2 d m p 4=px1 d m (p+1):=by
 unfold px2 px1;rw[show(List.range (p+1)).flatMap (qN d m)=(List.range p).flatMap (qN d m)++qN d m p from HF _ _];rfl
theorem QNN:px1 d m d.ps.n=Qb d m:=rfl
theorem QIm:px2 d m p 0=px1 d m p:=List.append_nil _
theorem Hh(p i:Nat):px3 d m p i (p+1)=px2 d m p i:=by
 unfold px3
 have:(List.range (p+1)).flatMap (ZF d m p i)=[]:=by
  rw[List.flatMap_eq_nil_iff];intro q hq;have:=List.mem_range.1 hq;unfold ZF;rw[List.flatMap_eq_nil_iff];intro j _;unfold isJ;rw[decide_eq_false (show ¬ p<q by omega)];rfl
 rw[this,List.append_nil]
theorem QY7{d:Puz}{m:Int}{p i q j:Nat}(hp:p<d.ps.n)(hi:i<4)(hq:q<d.ps.n)(hj:j<4):px4 d m p i q j++isL d m p i q j <+: Qb d m:=by
 have h1:px4 d m p i q j++isL d m p i q j <+: px3 d m p i (q+1):=by
  rw[<-QKI];unfold px4;rw[List.append_assoc];refine QG6 ?_;rw[<-HF];exact QDU _ (by omega)
 have h2:px3 d m p i (q+1) <+: px2 d m p (i+1):=by
  rw[<-QNI];exact QG6 (QDU _ (by omega))
 have h3:px2 d m p (i+1) <+: px1 d m (p+1):=by
  rw[<-QP1];exact QG6 (QDU _ (by omega))
 have h4:px1 d m (p+1) <+: Qb d m:=by
  rw[<-QNN];exact QDU _ (by omega)
 exact h1.trans (h2.trans (h3.trans h4))
theorem QKe(p i q j:Nat):px4 d m p i q (j+1)=px4 d m p i q j++isL d m p i q j:=by
 unfold px4;rw[HF,List.append_assoc]
theorem jQ{d:Puz}{m:Int}{p i q j:Nat}(hp:p<d.ps.n)(hi:i<4)(hq:q<d.ps.n)(hj:j<4)(h:isJ d m p i q j=true):(px4 d m p i q j).length<(Qb d m).length/\(Qb d m).getD (px4 d m p i q j).length ⟨0,0,0,0⟩=⟨p,i,q,j⟩/\(px4 d m p i q (j+1)).length=(px4 d m p i q j).length+1:=by
 obtain⟨t,ht⟩:=QY7 (d:=d) (m:=m) hp hi hq hj;have e:isL d m p i q j=[⟨p,i,q,j⟩]:=by unfold isL;rw[h];rfl
 refine⟨?_,?_,?_⟩
 .rw[<-ht,e];simp
 .rw[<-ht,e,List.getD_eq_getElem?_getD,List.append_assoc,List.getElem?_append_right (qlr _)];simp
 .rw[QKe,e];simp
theorem QGE{d:Puz}{m:Int}{p i q j:Nat}(h:isJ d m p i q j=false):px4 d m p i q (j+1)=px4 d m p i q j:=by
 rw[QKe,isL,h];simp
theorem QdQ(p:Qx)(a b:Edge):Yt p a b=0∨Yt p a b=1∨Yt p a b=2:=by
 have hv:∀ a b,YS p a b=0∨YS p a b=1∨YS p a b=2:=by
  intro a b;unfold YS;split
  .split
   .exact .inl rfl
   .exact .inr (.inl rfl)
  .exact .inr (.inr rfl)
 unfold Yt;split
 .split
  .exact hv _ _
  .exact .inl rfl
 .split
  .exact hv _ _
  .exact .inl rfl
theorem QQc{d:Puz}(h:d.ok=true){p i:Nat}(hp:p<d.ps.n):(Vs (d.ps.get p) i).ok=true/\d.pK.ok=true:=by
 rw[Puz.ok,qbA]at h;have hn:QX (VV d) d.ps.n 0=none:=by simpa using h.2
 have hb:=QC3 hn p (Nat.zero_le _) (by omega)
 simp only[VV,Bool.not_eq_false',qbA,QW.ok]at hb;refine⟨?_,hb.1⟩;unfold Vs;split
 .exact hb.2.1
 .exact hb.2.2.1
 .exact hb.2.2.2.1
 .exact hb.2.2.2.2
theorem Qaq{d:Puz}(h:d.ok=true){p q:Nat}(i j:Nat)(hp:p<d.ps.n)(hq:q<d.ps.n):(JJ d.pK (Vs (d.ps.get p) i) (Vs (d.ps.get q) j)).2=0/\(meF d (d.ps.get p) (d.ps.get q) i j=0∨meF d (d.ps.get p) (d.ps.get q) i j=1∨meF d (d.ps.get p) (d.ps.get q) i j=2):=by
 obtain⟨h1,h2⟩:=QQc h hp (i:=i);obtain⟨h3,_⟩:=QQc h hq (i:=j);unfold meF JJ;rw[if_pos ⟨h2,h1,h3⟩];exact⟨rfl,QdQ _ _ _⟩
end Go.Proofs.YtekbmehgcofnkaaGreat
namespace Go.SX
theorem QKw{Q:AV->List (Nat×Blk)->Prop}{i:Int}{f:Nat->QC}:∀{n m k:Nat},i=k->m<=k->k<=m+n->(f k).den Q->(QEu i n m f).den Q
 | 0,m,k,_,h1,h2,h=>by
  obtain rfl:m=k:=by omega
  exact h
 | n+1,m,k,hi,h1,h2,h=>by
  refine QF ?_ ?_<;>intro e
  .obtain rfl:m=k:=by have:=qdt e;omega
   exact h
  .exact QKw hi (by have:=qdf e;omega) (by omega) h
theorem QKm{Q:AV->List (Nat×Blk)->Prop}{k len:Nat}{f:Nat->QC}(hk:k<len)(h:(f k).den Q):(vr (k:Int) len f).den Q:=
 QH (by simp;omega) (QKw rfl (Nat.zero_le _) (by omega) h)
end Go.SX
namespace Go.Proofs.YtekbmehgcofnkaaGreat
open Go.SX
variable (d:Puz)(m:Int)(p:Nat)
theorem QO2(hn:d.ps.n<=1000){m:Int}(hm:1<=m):(Qb d m).length<=16000000:=by
 rw[<-QBe d hn hm,G1];have:=QFm (VC m) (QHI m) (QM d).1;have h2:=(Y5 d hn).l;unfold Kc;omega
theorem QVU{Q:AV->List (Nat×Blk)->Prop}{d:Puz}{S M:List Jn}{a b p i q j:Nat}{v:Int×Int}(h2:v.2=0)(hv:v.1=0∨v.1=1∨v.1=2)(hS:v.1=2->a<S.length/\S.getD a ⟨0,0,0,0⟩=⟨p,i,q,j⟩)(hM:v.1≠0->b<M.length/\M.getD b ⟨0,0,0,0⟩=⟨p,i,q,j⟩)(g0:v.1=0->(jE d S M p i q j a b).den Q)(g1:v.1=1->(jE d S M p i q j a (i64.wrap ((b:Int)+1))).den Q)(g2:v.1=2->(jE d S M p i q j (i64.wrap ((a:Int)+1)) (i64.wrap ((b:Int)+1))).den Q):(sfX d S M a b p i q j v).den Q:=by
 have qe:∀{L:List Jn} {k:Nat},L.getD k ⟨0,0,0,0⟩=⟨p,i,q,j⟩->sfQ L k p i q j=false:=by
  intro L k h;unfold sfQ;rw[h];simp
 have tm:∀ a':Int,v.1≠0->(jE d S M p i q j a' (i64.wrap ((b:Int)+1))).den Q->(sfM d S M b p i q j a' v.1).den Q:=by
  intro a' hn h;obtain⟨m1,m2⟩:=hM hn;unfold sfM;refine QF (λ_=>?_) (λe=>absurd (by simpa using e) hn)
  refine QF (λe=>absurd (qdt e) (by omega)) (λ_=>?_)
  refine QH (by simp;omega) (QH (by simp;omega) ?_)
  exact QF (λe=>by rw[qe m2]at e;cases e) (λ_=>h)
 unfold sfX;refine QF (λe=>absurd h2 (by simpa using e)) (λ_=>?_)
 refine QF ?_ ?_<;>intro e
 .have e:v.1=2:=by simpa using e
  obtain⟨s1,s2⟩:=hS e;refine QF (λe=>absurd (qdt e) (by omega)) (λ_=>?_)
  refine QH (by simp;omega) (QH (by simp;omega) ?_)
  exact QF (λe'=>by rw[qe s2]at e';cases e') (λ_=>tm _ (by omega) (g2 e))
 .have e:v.1≠2:=by simpa using e
  rcases hv with h|h|h
  .unfold sfM;exact QF (λe'=>absurd h (by simpa using e')) (λ_=>g0 h)
  .exact tm _ (by omega) (g1 h)
  .exact absurd h e
def sfA(p i q j:Nat):Nat:=(px4 d 2 p i q j).length
def sfC(p i q j:Nat):Nat:=(px4 d 1 p i q j).length
theorem Qcm(ho:d.ok=true)(hn:d.ps.n<=1000){p i q:Nat}(hp:p<d.ps.n)(hi:i<4)(hq:q<d.ps.n)(hpq:p<q):Ji (λj=>GS d (Qb d 2) (Qb d 1) (sfA d p i q j) (sfC d p i q j) p i q j) (λj=>j<=4) (λj=>4-j) (λ_ e J=>e = .exit 6/\J=Ys d (Qb d 2) (Qb d 1) (sfA d p i q 4) (sfC d p i q 4) p i q) 8 QEo [] (mkF prog JB) (λ_=>hnd (mkF prog JB) 2) (QS (QS (QS (QJ f11 0)))):=by
 refine⟨λj g hj=>Qf (QaD d (Qb d 2) (Qb d 1) (sfA d p i q j) (sfC d p i q j) p i q j g) ?_⟩;have hj:j<=4:=hj;have l2:=QO2 d hn (m:=2) (by decide)
 have l1:=QO2 d hn (m:=1) (by decide)
 unfold sfT;refine QF ?_ ?_<;>intro h
 .have h:j<4:=by have:=qdt h;omega
  obtain⟨f2,fv⟩:=Qaq ho i j hp hq;have e2:meF d (d.ps.get p) (d.ps.get q) i j=2->isJ d 2 p i q j=true:=λe=>by unfold isJ;rw[e,qde hpq];rfl
  have n2:meF d (d.ps.get p) (d.ps.get q) i j≠2->isJ d 2 p i q j=false:=λe=>by unfold isJ;rw[decide_eq_false (show ¬ (2:Int)<=meF d (d.ps.get p) (d.ps.get q) i j by omega),Bool.and_false]
  have e1:meF d (d.ps.get p) (d.ps.get q) i j≠0->isJ d 1 p i q j=true:=λe=>by unfold isJ;rw[qde hpq,qde (show(1:Int)<=meF d (d.ps.get p) (d.ps.get q) i j by omega)];rfl
  have n1:meF d (d.ps.get p) (d.ps.get q) i j=0->isJ d 1 p i q j=false:=λe=>by unfold isJ;rw[e,Bool.and_eq_false_iff];exact .inr rfl
  have hw:i64.wrap ((j:Int)+1)=((j+1:Nat):Int):=(w64 (by omega) (by omega)).trans (by omega)
  have leaf:∀ aV bV:Int,aV=(sfA d p i q (j+1):Int)->bV=(sfC d p i q (j+1):Int)->(jE d (Qb d 2) (Qb d 1) p i q j aV bV).den (G2 (QCC (λj=>GS d (Qb d 2) (Qb d 1) (sfA d p i q j) (sfC d p i q j) p i q j) (λj=>j<=4) (λj=>4-j) (λ_ e J=>e = .exit 6/\J=Ys d (Qb d 2) (Qb d 1) (sfA d p i q 4) (sfC d p i q 4) p i q) 8 QEo j) (QDF (λ_ e J=>e = .exit 6/\J=Ys d (Qb d 2) (Qb d 1) (sfA d p i q 4) (sfC d p i q 4) p i q) 8 QEo j)):=by
   intro aV bV ha hb;refine⟨j+1,h,by show 4-(j+1)<4-j;omega,λ_ _ r=>r,rfl,rfl,_,QbO d (Qb d 2) (Qb d 1) aV bV (i64.wrap ((j:Int)+1)) p i q (sfA d p i q (j+1)) (sfC d p i q (j+1)) (j+1),?_⟩
   repeat' first|with_reducible refine QP ?_ ?_|exact tv|with_reducible exact qRr|with_reducible exact hw|with_reducible exact ha|with_reducible exact hb|exact rfl|refine aI ?_ ?_
  refine QH (by simp;omega) (QKm hi (QH (by simp;omega) (QH (by simp;omega) (QKm h (QH (by simp;omega) (QH rfl ?_))))))
  refine QVU f2 fv (λe=>?_) (λe=>?_) (λe=>?_) (λe=>?_) (λe=>?_)
  .exact⟨(jQ hp hi hq h (e2 e)).1,(jQ hp hi hq h (e2 e)).2.1⟩
  .exact⟨(jQ hp hi hq h (e1 e)).1,(jQ hp hi hq h (e1 e)).2.1⟩
  .have e:meF d (d.ps.get p) (d.ps.get q) i j=0:=e;exact leaf _ _ (by unfold sfA;rw[QGE (n2 (by omega))]) (by unfold sfC;rw[QGE (n1 e)])
  .have e:meF d (d.ps.get p) (d.ps.get q) i j=1:=e;have q1:=jQ hp hi hq h (e1 (by omega))
   exact leaf _ _ (by unfold sfA;rw[QGE (n2 (by omega))]) (by unfold sfC;rw[q1.2.2,w64 (by omega) (by omega)];omega)
  .have e:meF d (d.ps.get p) (d.ps.get q) i j=2:=e;have q1:=jQ hp hi hq h (e1 (by omega))
   have q2:=jQ hp hi hq h (e2 e);exact leaf _ _ (by unfold sfA;rw[q2.2.2,w64 (by omega) (by omega)];omega) (by unfold sfC;rw[q1.2.2,w64 (by omega) (by omega)];omega)
 .obtain rfl:j=4:=by have:=qdf h;omega
  refine⟨_,⟨rfl,rfl⟩,rfl,rfl,_,Qdl d (Qb d 2) (Qb d 1) (sfA d p i q 4) (sfC d p i q 4) p i q (sfA d p i q 4) (sfC d p i q 4),?_⟩
  repeat' first|with_reducible refine QP ?_ ?_|exact tv|with_reducible exact qRr|exact rfl|refine aI ?_ ?_
theorem QJV(p i q:Nat):px4 d m p i q 4=px4 d m p i (q+1) 0:=by rw[QKI,jd]
theorem QPD(p i:Nat):px4 d m p i d.ps.n 0=px4 d m p (i+1) (p+1) 0:=by rw[jd,jd,QNI,Hh]
theorem QKS:px4 d m p 4 (p+1) 0=px4 d m (p+1) 0 (p+1+1) 0:=by rw[jd,jd,Hh,Hh,QP1,QIm]
theorem QOS:px4 d m 0 0 (0+1) 0=[]:=by rw[jd,Hh,QIm];rfl
theorem QMj:px4 d m d.ps.n 0 (d.ps.n+1) 0=Qb d m:=by rw[jd,Hh,QIm,QNN]
theorem QTH(ho:d.ok=true)(hn:d.ps.n<=1000){p i q:Nat}(hp:p<d.ps.n)(hi:i<4)(hpq:p<q)(G:Ctx)(hrd:G.rd=none)(hG:G.n<=8):Qu (mkF prog JB) G (QE0 prog d (Qb d 2) (Qb d 1) (sfA d p i q 0) (sfC d p i q 0) p i q (sfA d p i q 4) (sfC d p i q 4)) (QS (QS (QJ f11 0))):=by
 refine KM (body:=QS (QS (QS (QJ f11 0)))) (Ke ZJ) hrd (by kernel_rfl) ?_
 refine Jm λhq=>?_;refine Vn (I:=λj=>GS d (Qb d 2) (Qb d 1) (sfA d p i q j) (sfC d p i q j) p i q j) (n0:=8) (Ke ZJ) hG (λj hj=>Q1 (Ke ZJ) 2 G _ hrd) (λj hj=>(by decide:8<=216)) ?_ (Qcm d ho hn hp hi hq hpq) (s0:=0) (Nat.zero_le _) ?_
 .rintro s e J ⟨_,rfl⟩;exact(by decide:8<=216)
 .rintro e J ⟨rfl,rfl⟩;exact⟨_,qmc,trivial,rfl,rfl⟩
theorem QaC(hn:d.ps.n<=1000){p i:Nat}(hp:p<d.ps.n):Ji (λq=>Ys d (Qb d 2) (Qb d 1) (sfA d p i q 0) (sfC d p i q 0) p i q) (λq=>p<q/\q<=d.ps.n) (λq=>d.ps.n-q) (λ_ e J=>e = .exit 4/\J=qB d (Qb d 2) (Qb d 1) (sfA d p i d.ps.n 0) (sfC d p i d.ps.n 0) p i) 8 QRh [] (mkF prog JB) (λq=>QE0 prog d (Qb d 2) (Qb d 1) (sfA d p i q 0) (sfC d p i q 0) p i q (sfA d p i q 4) (sfC d p i q 4)) (QS (QS (QJ f11 0))):=by
 refine⟨λq g hk=>?_⟩;obtain⟨hpq,hqn⟩:=hk;have hqn:q<=d.ps.n:=hqn;have hpq:p<q:=hpq;have ha:sfA d p i (q+1) 0=sfA d p i q 4:=by unfold sfA;rw[QJV]
 have hc:sfC d p i (q+1) 0=sfC d p i q 4:=by unfold sfC;rw[QJV]
 have et:=QYC d (Qb d 2) (Qb d 1) (sfA d p i q 0) (sfC d p i q 0) p i q (sfA d p i q 4) (sfC d p i q 4) g;refine Qf et ?_;clear et;refine QF (λb0=>?_) (λb0=>?_);have h:q<d.ps.n:=by have:=qdt b0;omega
 have hw:i64.wrap ((q:Int)+1)=((q+1:Nat):Int):=Ju h hn
 iterate 35 refine Qt (by first|exact tv|exact h|with_reducible exact qRr|exact rfl) ?_
 refine Qj λa0=>?_;refine Qk λg0=>?_
 .refine⟨q+1,⟨by omega,h⟩,by show d.ps.n-(q+1)<d.ps.n-q;omega,λ_ _ r=>r,rfl,rfl,_,QYw d (Qb d 2) (Qb d 1) p i q (q+1) (sfA d p i q 4) (sfC d p i q 4) (sfA d p i (q+1) 0) (sfC d p i (q+1) 0),?_⟩
  rw[ha,hc]
  repeat' first|with_reducible refine QP ?_ ?_|exact tv|with_reducible exact qRr|with_reducible exact hw|exact rfl|refine aI ?_ ?_
 obtain rfl:q=d.ps.n:=by have:=qdf b0;omega
 refine⟨_,⟨rfl,rfl⟩,rfl,rfl,_,Qay d (Qb d 2) (Qb d 1) (sfA d p i d.ps.n 0) (sfC d p i d.ps.n 0) p i d.ps.n,?_⟩
 rotate_left
 all_goals (repeat' first|with_reducible refine QP ?_ ?_|exact tv|with_reducible exact qRr|exact rfl|refine aI ?_ ?_)
theorem QYB(ho:d.ok=true)(hn:d.ps.n<=1000){p i:Nat}(hp:p<d.ps.n)(G:Ctx)(hrd:G.rd=none)(hG:G.n<=8):Qu (mkF prog JB) G (QIo prog d (Qb d 2) (Qb d 1) (sfA d p i (p+1) 0) (sfC d p i (p+1) 0) p i (sfA d p i d.ps.n 0) (sfC d p i d.ps.n 0)) (QS (QJ f11 0)):=by
 refine KM (body:=QS (QS (QJ f11 0))) (Ke ZJ) hrd (by kernel_rfl) ?_
 refine Jm λhi=>?_;refine Vn (I:=λq=>Ys d (Qb d 2) (Qb d 1) (sfA d p i q 0) (sfC d p i q 0) p i q) (n0:=8) (Ke ZJ) hG (λq hq=>QTH d ho hn hp hi hq.1 G hrd hG) (λj hj=>(by decide:8<=216)) ?_ (QaC d hn hp) (s0:=p+1) ⟨Nat.lt_succ_self _,hp⟩ ?_
 .rintro s e J ⟨_,rfl⟩;exact(by decide:8<=216)
 .rintro e J ⟨rfl,rfl⟩;exact⟨_,qmc,trivial,rfl,rfl⟩
theorem QcN(hn:d.ps.n<=1000){p:Nat}(hp:p<d.ps.n):Ji (λi=>qB d (Qb d 2) (Qb d 1) (sfA d p i (p+1) 0) (sfC d p i (p+1) 0) p i) (λi=>i<=4) (λi=>4-i) (λ_ e J=>e = .exit 2/\J=Wk d (Qb d 2) (Qb d 1) (sfA d p 4 (p+1) 0) (sfC d p 4 (p+1) 0) p) 8 QPt [] (mkF prog JB) (λi=>QIo prog d (Qb d 2) (Qb d 1) (sfA d p i (p+1) 0) (sfC d p i (p+1) 0) p i (sfA d p i d.ps.n 0) (sfC d p i d.ps.n 0)) (QS (QJ f11 0)):=by
 refine⟨λi g hk=>?_⟩;have hk:i<=4:=hk;have ha:sfA d p (i+1) (p+1) 0=sfA d p i d.ps.n 0:=by unfold sfA;rw[QPD]
 have hc:sfC d p (i+1) (p+1) 0=sfC d p i d.ps.n 0:=by unfold sfC;rw[QPD]
 have hp1:i64.wrap ((p:Int)+1)=((p+1:Nat):Int):=Ju hp hn;have et:=Qeo d (Qb d 2) (Qb d 1) (sfA d p i (p+1) 0) (sfC d p i (p+1) 0) p i (sfA d p i d.ps.n 0) (sfC d p i d.ps.n 0) g;refine Qf et ?_;clear et;refine QF (λb0=>?_) (λb0=>?_);have h:i<4:=by have:=qdt b0;omega
 have hw:i64.wrap ((i:Int)+1)=((i+1:Nat):Int):=(w64 (by omega) (by omega)).trans (by omega)
 iterate 34 refine Qt (by first|exact tv|exact h|exact hp1|with_reducible exact qRr|exact rfl) ?_
 refine Qj λa0=>?_;refine Qk λg0=>?_
 .refine⟨i+1,h,by show 4-(i+1)<4-i;omega,λ_ _ r=>r,rfl,rfl,_,QeX d (Qb d 2) (Qb d 1) p i (i+1) (sfA d p i d.ps.n 0) (sfC d p i d.ps.n 0) (sfA d p (i+1) (p+1) 0) (sfC d p (i+1) (p+1) 0),?_⟩
  rw[ha,hc]
  repeat' first|with_reducible refine QP ?_ ?_|exact tv|with_reducible exact qRr|with_reducible exact hw|exact rfl|refine aI ?_ ?_
 obtain rfl:i=4:=by have:=qdf b0;omega
 refine⟨_,⟨rfl,rfl⟩,rfl,rfl,_,QYH d (Qb d 2) (Qb d 1) (sfA d p 4 (p+1) 0) (sfC d p 4 (p+1) 0) p 4,?_⟩
 rotate_left
 all_goals (repeat' first|with_reducible refine QP ?_ ?_|exact tv|with_reducible exact qRr|exact rfl|refine aI ?_ ?_)
theorem QTn(ho:d.ok=true)(hn:d.ps.n<=1000){p:Nat}(G:Ctx)(hrd:G.rd=none)(hG:G.n<=8):Qu (mkF prog JB) G (QIc prog d (Qb d 2) (Qb d 1) (sfA d p 0 (p+1) 0) (sfC d p 0 (p+1) 0) p (sfA d p 4 (p+1) 0) (sfC d p 4 (p+1) 0)) (QJ f11 0):=by
 refine KM (body:=QS (QJ f11 0)) (Ke ZJ) hrd (by kernel_rfl) ?_
 refine Jm λhp=>?_;refine Vn (I:=λi=>qB d (Qb d 2) (Qb d 1) (sfA d p i (p+1) 0) (sfC d p i (p+1) 0) p i) (n0:=8) (Ke ZJ) hG (λi hi=>QYB d ho hn hp G hrd hG) (λj hj=>(by decide:8<=216)) ?_ (QcN d hn hp) (s0:=0) (Nat.zero_le _) ?_
 .rintro s e J ⟨_,rfl⟩;exact(by decide:8<=216)
 .rintro e J ⟨rfl,rfl⟩;exact⟨_,qmc,trivial,rfl,rfl⟩
theorem QeK(hn:d.ps.n<=1000):Ji (λp=>Wk d (Qb d 2) (Qb d 1) (sfA d p 0 (p+1) 0) (sfC d p 0 (p+1) 0) p) (λp=>p<=d.ps.n) (λp=>d.ps.n-p) (λ_ e J=>e = .exit 0/\J=QB1 (Qb d 2) (Qb d 1) (Qb d 2).length (Qb d 1).length) 8 QKo [] (mkF prog JB) (λp=>QIc prog d (Qb d 2) (Qb d 1) (sfA d p 0 (p+1) 0) (sfC d p 0 (p+1) 0) p (sfA d p 4 (p+1) 0) (sfC d p 4 (p+1) 0)) (QJ f11 0):=by
 refine⟨λp g hk=>?_⟩;have hk:p<=d.ps.n:=hk;have ha:sfA d (p+1) 0 (p+1+1) 0=sfA d p 4 (p+1) 0:=by unfold sfA;rw[QKS]
 have hc:sfC d (p+1) 0 (p+1+1) 0=sfC d p 4 (p+1) 0:=by unfold sfC;rw[QKS]
 have et:=Qe8 d (Qb d 2) (Qb d 1) (sfA d p 0 (p+1) 0) (sfC d p 0 (p+1) 0) p (sfA d p 4 (p+1) 0) (sfC d p 4 (p+1) 0) g;refine Qf et ?_;clear et;refine QF (λb0=>?_) (λb0=>?_);have h:p<d.ps.n:=by have:=qdt b0;omega
 have hw:i64.wrap ((p:Int)+1)=((p+1:Nat):Int):=Ju h hn
 iterate 32 refine Qt (by first|exact tv|exact h|with_reducible exact qRr|exact rfl) ?_
 refine Qj λa0=>?_;refine Qk λg0=>?_
 .refine⟨p+1,h,by show d.ps.n-(p+1)<d.ps.n-p;omega,λ_ _ r=>r,rfl,rfl,_,QfI d (Qb d 2) (Qb d 1) p (p+1) (sfA d p 4 (p+1) 0) (sfC d p 4 (p+1) 0) (sfA d (p+1) 0 (p+1+1) 0) (sfC d (p+1) 0 (p+1+1) 0),?_⟩
  rw[ha,hc]
  repeat' first|with_reducible refine QP ?_ ?_|exact tv|with_reducible exact qRr|with_reducible exact hw|exact rfl|refine aI ?_ ?_
 obtain rfl:p=d.ps.n:=by have:=qdf b0;omega
 have ea:sfA d d.ps.n 0 (d.ps.n+1) 0=(Qb d 2).length:=by unfold sfA;rw[QMj]
 have ec:sfC d d.ps.n 0 (d.ps.n+1) 0=(Qb d 1).length:=by unfold sfC;rw[QMj]
 rw[ea,ec];refine⟨_,⟨rfl,rfl⟩,rfl,rfl,_,QWM d (Qb d 2) (Qb d 1) (Qb d 2).length (Qb d 1).length d.ps.n,?_⟩
 rotate_left
 all_goals (repeat' first|with_reducible refine QP ?_ ?_|exact tv|with_reducible exact qRr|exact rfl|refine aI ?_ ?_)
abbrev sfL:Code->St->(Ex->St->QC)->QC:=λ_=>JI (d.ok=true) (KE 8 [] (Wk d (KD d).1 (KD d).2.1 (0:Nat) (0:Nat) (0:Nat)) [(True,.exit 0,QB1 (KD d).1 (KD d).2.1 (KD d).1.length (KD d).2.1.length)])
theorem Qai(G:Ctx)(hrd:G.rd=none)(hG:G.n=8):Qu (mkF prog JB) G { hnd (mkF prog JB) 2 with loop:=sfL d } (Qp f11):=by
 refine KM (body:=QJ f11 0) (Ke ZJ) hrd (by kernel_rfl) ?_
 refine Jm λho=>?_;have hn:d.ps.n<=1000:=Nat.le_trans (jx (jy ho)).2.2 (by decide)
 have e:KD d=(Qb d 2,Qb d 1,0):=by unfold KD;rw[ho];rfl
 rw[e];have h0:sfA d 0 0 (0+1) 0=0:=by unfold sfA;rw[QOS];rfl
 have c0:sfC d 0 0 (0+1) 0=0:=by unfold sfC;rw[QOS];rfl
 have key:=Vn (I:=λp=>Wk d (Qb d 2) (Qb d 1) (sfA d p 0 (p+1) 0) (sfC d p 0 (p+1) 0) p) (n0:=8) (ids':=[]) (X:=[(True,.exit 0,QB1 (Qb d 2) (Qb d 1) (Qb d 2).length (Qb d 1).length)]) (Ke ZJ) (by omega) (λp hp=>QTn d ho hn G hrd (by omega)) (λj hj=>(by decide:8<=216)) (by rintro s e J ⟨_,rfl⟩;exact(by decide:8<=216)) (QeK d hn) (s0:=0) (Nat.zero_le _) (by
  rintro e J ⟨rfl,rfl⟩;exact⟨_,qmc,trivial,rfl,rfl⟩)
 simp only[h0,c0]at key;exact key
def QD6:WF (Puz×Unit):=λ|(d,_)=>(true,.bool false true,[])
theorem QcC :Ku (mkF prog JB) { hnd (mkF prog JB) 2 with loop:=sfL d } f11 (Qi.vals 0 ((d,()):Puz×Unit)) (Qi.blks 0 ((d,()):Puz×Unit)) 8 = .need (decide (d.ps.n<=d.ps.n)&&(true&&true)&&true) (.br (vE d (9:Int)) (.leaf (.bool true true) ([])) (.need (decide (d.ps.n<=d.ps.n)&&true&&decide (d.ps.n<=1000)) (.br ((KD d).2.2 != 0) (.br ((↑(KD d).1.length:Int)==0) (.br ((↑(KD d).2.1.length:Int)==0) (.br ((KD d).2.2==1) (.need (decide (d.ps.n<=d.ps.n)&&true&&decide (d.ps.n<=1000)) (.br (!d.ok) (.leaf (.bool true true) ([])) (.leaf (.bool true false) ([])))) (.leaf (.bool true false) ([]))) (.leaf (.bool true false) ([]))) (.leaf (.bool true false) ([]))) (.need (decide (d.ps.n<=d.ps.n)&&true&&decide (d.ps.n<=1000)) (.br (!d.ok) (.br ((↑(KD d).1.length:Int)==0) (.br ((↑(KD d).2.1.length:Int)==0) (.br ((KD d).2.2==1) (.need (decide (d.ps.n<=d.ps.n)&&true&&decide (d.ps.n<=1000)) (.br (!d.ok) (.leaf (.bool true true) ([])) (.leaf (.bool true false) ([])))) (.leaf (.bool true false) ([]))) (.leaf (.bool true false) ([]))) (.leaf (.bool true false) ([]))) (.ak ([d.ok=true,0=0,0=0,0=0,(KD d).1.length=(KD d).1.length,cO=cO,0=0,(KD d).2.1.length=(KD d).2.1.length,cO=cO,(0:Int)=0,(0:Int)=0,(d.ps.n:Int)=(d.ps.n:Int),(0:Int)=0,(KD d).1.length<=(KD d).1.length,QB 4 (KD d).1.length (λi=>QA.enc ((KD d).1.getD i (Jn.mk (0:Int) (0:Int) (0:Int) (0:Int)))) λi=>QA.enc ((KD d).1.getD i (Jn.mk (0:Int) (0:Int) (0:Int) (0:Int))),(KD d).2.1.length<=(KD d).2.1.length,QB 4 (KD d).2.1.length (λi=>QA.enc ((KD d).2.1.getD i (Jn.mk (0:Int) (0:Int) (0:Int) (0:Int)))) λi=>QA.enc ((KD d).2.1.getD i (Jn.mk (0:Int) (0:Int) (0:Int) (0:Int)))]++wab d++([cO=cO]++wae d)) (.asm (True) (.all (λ(g0:Nat->Value)=>.br ((↑(KD d).1.length:Int)==(↑(KD d).1.length:Int)) (.br ((↑(KD d).2.1.length:Int)==(↑(KD d).2.1.length:Int)) (.leaf (.bool true true) ([])) (.leaf (.bool true false) ([]))) (.leaf (.bool true false) ([]))))))))))):=by kernel_rfl
theorem QUp:Jw (mkF prog JB) (Qp f11) 8 QD6 (λx_=>{ hnd (mkF prog JB) 2 with loop:=sfL x_.1 }):=by
 refine⟨?_⟩;rintro⟨d,⟨⟩⟩ hp G h1 h2;exact Qai d G h1 h2
theorem QaI:Jx (mkF prog JB) f11 8 QD6 (λx_=>{ hnd (mkF prog JB) 2 with loop:=sfL x_.1 }):=by
 refine⟨?_⟩;rintro⟨d,⟨⟩⟩ hp;refine⟨⟨rfl,by simp[QD6],rfl⟩,⟨?_⟩⟩
 rw[QcC d];simp only[QD6]at hp;have j0:d.ok=false->KD d=([],[],1):=λh=>by unfold KD;rw[h];rfl
 have j1:d.ok=true->KD d=(Qb d 2,Qb d 1,0):=λh=>by unfold KD;rw[h];rfl
 refine QH ?_ ?_;rotate_left;refine QF ?_ ?_<;>intro b0
 .exact Kw rfl rfl
 have hn:¬ ((d.ps.n:Int)>14):=λh=>by rw[vE,qde h]at b0;cases b0
 refine QH ?_ ?_;rotate_left;refine QF ?_ ?_<;>intro b1
 have ho:d.ok=false:=by
  cases h:d.ok with
  | false=>rfl
  | true=>rw[j1 h]at b1;simp at b1
 refine QF (λb2=>?_) (λb2=>?_);refine QF (λb3=>?_) (λb3=>?_);refine QF (λb4=>?_) (λb4=>?_);refine QH ?_ ?_;rotate_left;refine QF ?_ ?_<;>intro b5
 .exact Kw rfl rfl
 .rw[ho]at b5;cases b5
 .rw[j0 ho]at b4;simp at b4
 .rw[j0 ho]at b3;simp at b3
 .rw[j0 ho]at b2;simp at b2
 have ho:d.ok=true:=by
  cases h:d.ok with
  | true=>rfl
  | false=>rw[j0 h]at b1;simp at b1
 refine QH ?_ ?_;rotate_left;refine QF ?_ ?_<;>intro b6
 .rw[ho]at b6;cases b6
 iterate 30 refine Qt (by first|exact tv|exact ho|with_reducible exact qRr|exact rfl) ?_
 refine Qj λa0=>?_;refine Qk λg0=>?_;refine QF (λb11=>?_) (λb11=>?_);refine QF ?_ ?_<;>intro b12
 .exact Kw rfl rfl
 .simp at b12
 .simp at b11
 all_goals first|rfl|(simp;done)|(simp;omega)
