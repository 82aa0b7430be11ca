/- - -/
import Derived.Test.YtekbmehgcofnkaaGreatMzp
import Derived.Test.YtekbmehgcofnkaaGreatMzo
import Derived.Test.YtekbmehgcofnkaaGreatMzx
import Derived.Test.YtekbmehgcofnkaaGreatMzu
import Derived.Test.YtekbmehgcofnkaaGreatMzw
open Go.Proofs.Tryz
open Go.IntKind (i64)
set_option maxRecDepth 100000
namespace Go.Proofs.YtekbmehgcofnkaaGreat
open Go.SX Go.SX.Told
structure KJ where
 n:Int
instance : QA KJ where
  ks := [.int .u16]
  enc p _ := p.n
  dec f := ⟨f 0⟩
  ok _ := rfl
variable {n:Nat}(d:Puz)(l:List Lay)(i k:Nat)
def otS(w:Rw KJ)(l:List Lay)(i:Nat):List (Nat×AV):=[(1,.slz 1 0 w.n (.of 0)),(2,.ptr 8 0 0),(5,.slz 96 0 l.length (.of 0)),(6,.slz 56 0 d.ps.n (.of 0)),(17,.int false .i64 d.ps.n),(18,.int false .i64 i)]
def otB(w:Rw KJ)(l:List Lay)(u:Nat->Nat->Int):List (Nat×Blk):=[rwU 56 d u,(8,.cells 0 28 (KS d)),rwY 96 l]++Qi.blk 0 d.ps++Qi.blk 1 w
def vM(w:Rw KJ)(l:List Lay)(u:Nat->Nat->Int)(i:Nat):JSt:=⟨63,otS d w l i,otB d w l u,104⟩
def Zc(w:Rw KJ)(l:List Lay)(u:Nat->Nat->Int)(i:Nat)(v:Int)(k:Nat):JSt:=⟨63,otS d w l i++[(8,.int false .i64 v),(9,.int false .i64 k)],otB d w l u,104⟩
def otE:JSt:=⟨63,[(5,.slz 96 0 l.length (.of 0))],[rwY 96 l],104⟩
def QT1:Ex->List Nat
 | .normal=>[1,2,5,6,17,18]
 | .exit _=>[5]
 | .ret=>[]
def QQN:Ex->List Nat
 | .normal=>[1,2,5,6,17,18,8,9]
 | .exit _=>[1,2,5,6,17,18,8,9]
 | .ret=>[]
noncomputable abbrev jb(i:Nat)(w:Rw KJ):Nat×Blk:=
  (1,.frz [CK.int IntKind.u16] w.n λi=>QA.enc (w.get i))
noncomputable abbrev jy:Nat×Blk:=
  (8,.cells 0 28 (waf d))
noncomputable abbrev jl(i:Nat):Nat×Blk:=
  (0,.frz (wae) d.ps.n λi=>QA.enc (d.ps.get i))
noncomputable abbrev QC3(i:Nat)(l:List Lay)(u:Nat->Nat->Int)(w:Rw KJ):List (Nat×Blk):=
  [(jb i w),(jy d),(96,.rowz true 49 kB l.length λi=>QA.enc (l.getD i (Lay.mk (0:Int) (0:Int)))),(56,.rowz true 4 [CK.bool] d.ps.n u),(jl
  d i)]
noncomputable abbrev wbB(d:Puz)(l:List Lay)(w:Rw KJ):List AV:=[.slz 1 0 w.n cO,.ptr 8 0 0,.slz 96 0 l.length cO,.slz 56 0 d.ps.n cO]
theorem QhO(w:Rw KJ)(l:List Lay)(u:Nat->Nat->Int)(i:Nat)(v:Int)(k:Nat)(g:Nat->Value):exec (mkE prog VK) (hnd (mkE prog VK) 0) (QU (QH f26 0)) (JSt.inst (Zc d w l u i v k) g) (Q9 [] QQN) = .need (decide ((0:Int)<=(k:Int)/\(k:Int)<(d.ps.n:Int))&&decide (d.ps.n<=d.ps.n)) (.need (decide (k<d.ps.n)) (.br (decide (u ((k:Int).toNat+0) 0=1)) (.need (!decide ((d.ps.n:Int)=0)) (.leaf (.tup (.nilp::.ptr 63 0 0::List.append (wbB d l w) ([vi (d.ps.n:Int),vi (i:Int),vi v,vi ((i64.wrap ((k:Int)+1)).tmod (d.ps.n:Int))]))) ((QC3 d i l u w)))) (.leaf (.tup (.ptr 2 0 0::.ptr 63 0 0::List.append (wbB d l w) ([vi (d.ps.n:Int),vi (i:Int),vi v,vi (k:Int)]))) ((QC3 d i l u w))))):=by kernel_rfl
abbrev QSU(l:List Lay)(w:Rw KJ):List Prop:=
  (([0=0,w.n=w.n,cO=cO]++wbU l++[0=0])++wbF d++[(i:Int)=(i:Int)])
abbrev QPO(i:Nat)(l:List Lay)(w:Rw KJ):List Prop:=
  ((([d.pK.aK=d.pK.aK]++waC d++[0 =
  0,d.ps.n=d.ps.n,cO=cO])++wag l)++wad d++[w.n<=w.n,QB 1 w.n (λi=>QA.enc (w.get i)) λi=>
  QA.enc (w.get i)])
theorem QZJ(w:Rw KJ)(l:List Lay)(u:Nat->Nat->Int)(i:Nat)(v:Int)(k k':Nat):QF 8 (List.append (wbB d l w) ([vi (d.ps.n:Int),vi (i:Int),vi v,vi ((i64.wrap ((k:Int)+1)).tmod (d.ps.n:Int))])) ((QC3 d i l u w)) (Zc d w l u i v k')=(some ((QSU d i l w)++[v=v,(i64.wrap ((k:Int)+1)).tmod (d.ps.n:Int)=(k':Int),d.ps.n<=d.ps.n,QB 1 d.ps.n u u,d.pK.length=d.pK.length]++(QPO d i l w))):=by kernel_rfl
theorem QVu(w:Rw KJ)(l:List Lay)(u:Nat->Nat->Int)(i:Nat)(v:Int)(k:Nat):QF 8 (List.append (wbB d l w) ([vi (d.ps.n:Int),vi (i:Int),vi v,vi (k:Int)])) ((QC3 d i l u w)) (Zc d w l u i v k)=(some ((QSU d i l w)++[v=v,(k:Int)=(k:Int),d.ps.n<=d.ps.n,QB 1 d.ps.n u u, d.pK.length=d.pK.length]++(QPO d i l w))):=by kernel_rfl
abbrev otH(P:Program)(d:Puz)(w:Rw KJ)(l:List Lay)(u:Nat->Nat->Int)(i:Nat)(v:Int)(k0 k:Nat):Hnd:={ hnd (mkE P VK) 0 with loop:=λ_=>JT (i<d.ps.n) (KC 8 [] (Zc d w l u i v k0) [(True,.exit 2,Zc d w l u i v k)]) }
noncomputable abbrev QLC(i:Nat)(k:Nat)(l:List Lay)(v:Int):Nat×Blk:=
  (280,.rowz true 49 kB (l.length+1) (KT l.length (λi=>QA.enc (l.getD i (Lay.mk (0:Int) (0:Int)))) (Ke [[vi (k:Int),.int false
  .i64 ((v.fdiv (256:Int)).tmod (4:Int))]] 0)))
noncomputable abbrev HR(i:Nat)(k:Nat)(u:Nat->Nat->Int):Nat×Blk:=
  (56,.rowz true 4 [CK.bool] d.ps.n λi=>bif decide (i=k)then Ki [.bool true true] 0 (u ((k:Int).toNat+0))else u i)
noncomputable abbrev QIR:List AV:=
  [vi (k:Int),vj 0]
noncomputable abbrev QNZ(i:Nat)(k:Nat)(l:List Lay):Nat×Blk:=
  (240,.rowz true 49 kB (l.length+1) (KT l.length (λi=>QA.enc (l.getD i (Lay.mk (0:Int) (0:Int)))) (Ke [(QIR k)] 0)))
noncomputable abbrev QMQ(i:Nat)(k:Nat)(l:List Lay):Nat×Blk:=
  (224,.rowz true 49 kB (l.length+1) (KT l.length (λi=>QA.enc (l.getD i (Lay.mk (0:Int) (0:Int)))) (Ke [(QIR k)] 0)))
noncomputable abbrev wbH(d:Puz)(i:Nat):List AV:=[.slz 56 0 d.ps.n cO,vi (d.ps.n:Int),vi (i64.wrap ((i:Int)+1))]
theorem QVN(w:Rw KJ)(l:List Lay)(u:Nat->Nat->Int)(i:Nat)(v:Int)(k0 k:Nat)(g:Nat->Value):exec (mkE prog VK) (otH prog d w l u i v k0 k) (QH f26 0) (JSt.inst (vM d w l u i) g) (Q9 [] QT1) = .br (decide ((i:Int)<(d.ps.n:Int))) (.need (!decide ((w.n:Int)=0)) (.need (decide ((0:Int)<=(i:Int).tmod (w.n:Int)/\(i:Int).tmod (w.n:Int)<(w.n:Int))&&decide (w.n<=w.n)) (.need (decide (((i:Int).tmod (w.n:Int)).toNat<w.n)) (.need (!decide ((d.ps.n:Int)=0)) (.ak ((([i<d.ps.n,0=0,w.n=w.n,cO=cO]++wbU l++[0=0])++wbF d++[(i:Int)=(i:Int),i64.wrap (w.get ((i:Int).tmod (w.n:Int)).toNat).n=v,(i64.wrap (w.get ((i:Int).tmod (w.n:Int)).toNat).n).tmod (d.ps.n:Int)=(k0:Int),d.ps.n<=d.ps.n,QB 1 d.ps.n u u])++waa d++(([cO=cO]++wag l)++wad d++[w.n<=w.n,QB 1 w.n (λi=>QA.enc (w.get i)) λi=>QA.enc (w.get i)])) (.asm (True) (.all (λ(g0:Nat->Value)=>.need (decide ((0:Int)<=(k:Int)/\(k:Int)<(d.ps.n:Int))&&decide (d.ps.n<=d.ps.n)) (.need (decide (k<d.ps.n)) (.br (d.turn) (.br (decide ((k:Int)>0)) (.need (decide (l.length<=l.length)&&(true&&decide ((l.length+1+(l.length+1) / 4+192)*16<=281474976710656/\l.length+1<=9223372036854775807))) (.leaf (.tup (.nilp::.ptr 63 0 0::.slz 1 0 w.n cO::.ptr 8 0 0::.slz 280 0 (l.length+1) cO::wbH d i)) ([(jb i w),(jy d),(QLC i k l v),(HR d i k u),(jl d i)]))) (.need (decide (l.length<=l.length)&&(true&&decide ((l.length+1+(l.length+1) / 4+192)*16<=281474976710656/\l.length+1<=9223372036854775807))) (.leaf (.tup (.nilp::.ptr 63 0 0::.slz 1 0 w.n cO::.ptr 8 0 0::.slz 240 0 (l.length+1) cO::wbH d i)) ([(jb i w),(jy d),(QNZ i k l),(HR d i k u),(jl d i)])))) (.need (decide (l.length<=l.length)&&(true&&decide ((l.length+1+(l.length+1) / 4+192)*16<=281474976710656/\l.length+1<=9223372036854775807))) (.leaf (.tup (.nilp::.ptr 63 0 0::.slz 1 0 w.n cO::.ptr 8 0 0::.slz 224 0 (l.length+1) cO::wbH d i)) ([(jb i w),(jy d),(QMQ i k l), (HR d i k u),(jl d i)]))))))))))))) (.leaf (.tup [.ptr 0 0 0,.ptr 63 0 0,.slz 96 0 l.length cO]) ([(96,.rowz true 49 kB l.length λi=>QA.enc (l.getD i (Lay.mk (0:Int) (0:Int))))])):=by kernel_rfl
theorem QfW(w:Rw KJ)(l l':List Lay)(u u':Nat->Nat->Int)(i i':Nat)(v:Int)(k0 k:Nat):QF 8 (.slz 1 0 w.n cO::.ptr 8 0 0::.slz 280 0 (l.length+1) cO::wbH d i) ([(jb i w),(jy d),(QLC i k l v),(HR d i k u),(jl d i)]) (vM d w l' u' i')=(some (([0=0,w.n=w.n,cO=cO,0=0,0=0,0=0,l.length+1=l'.length,cO=cO,0=0]++wbF d++[i64.wrap ((i:Int)+1)=(i':Int),d.ps.n<=d.ps.n,QB 1 d.ps.n (λi=>bif decide (i=k)then Ki [.bool true true] 0 (u ((k:Int).toNat+0))else u i) u'])++waa d++([cO=cO,l'.length<=l.length+1,QB 2 l'.length (KT l.length (λi=>QA.enc (l.getD i (Lay.mk (0:Int) (0:Int)))) (Ke [[vi (k:Int),vi ((v.fdiv (256:Int)).tmod (4:Int))]] 0)) λi=>QA.enc (l'.getD i (Lay.mk (0:Int) (0:Int)))]++wad d++[w.n<=w.n,QB 1 w.n (λi=>QA.enc (w.get i)) λi=>QA.enc (w.get i)]))):=by kernel_rfl
abbrev QRg(i:Nat)(i':Nat)(k:Nat)(l:List Lay)(l':List Lay)(u:Nat->Nat->Int)(u':Nat->Nat->Int)(w:Rw KJ):List Prop:=
  (([0=0,w.n=w.n,cO=cO,0=0,0=0,0=0,l.length+1=l'.length,cO=cO,0=0]++wbF d++[i64.wrap ((i:Int)+1)=(i':Int),d.ps.n<=d.ps.n,QB 1 d.ps.n (λi=>bif decide (i=k)then Ki [.bool true true] 0 (u ((k:Int).toNat+0))else u i)
  u'])++waa d++([cO=cO,l'.length<=l.length+1,QB 2 l'.length (KT l.length (λi=>QA.enc (l.getD i (Lay.mk (0 :
  Int) (0:Int)))) (Ke [(QIR k)] 0)) λi=>QA.enc (l'.getD i (Lay.mk (0:Int) (0:Int)))]++wad d++[w.n<=w.n,QB 1 w.n (λi=>QA.enc (w.get i)) λi=>QA.enc (w.get i)]))
theorem Qg8(w:Rw KJ)(l l':List Lay)(u u':Nat->Nat->Int)(i i':Nat)(v:Int)(k0 k:Nat):QF 8 (.slz 1 0 w.n cO::.ptr 8 0 0::.slz 240 0 (l.length+1) cO::wbH d i) ([(jb i w),(jy d),(QNZ i k l),(HR d i k u),(jl d i)]) (vM d w l' u' i')=(some (QRg d i i' k l l' u u' w)):=by kernel_rfl
theorem Qf0(w:Rw KJ)(l l':List Lay)(u u':Nat->Nat->Int)(i i':Nat)(v:Int)(k0 k:Nat):QF 8 (.slz 1 0 w.n cO::.ptr 8 0 0::.slz 224 0 (l.length+1) cO::wbH d i) ([(jb i w),(jy d),(QMQ i k l),(HR d i k u),(jl d i)]) (vM d w l' u' i')=(some (QRg d i i' k l l' u u' w)):=by kernel_rfl
theorem Qd5:QF 8 [AV.slz (96:Nat) (0:Nat) l.length cO] ([((96:Nat),Blk.rowz true (49:Nat) [CK.int i64,CK.int i64] l.length λi=>QA.enc (l.getD i (Lay.mk (0:Int) (0:Int))))]) (otE l)=( some ([0=0,l.length=l.length,cO=cO]++wba l)):=by kernel_rfl
def jB(u:Nat->Bool)(n:Nat):Nat->Nat->Nat
 | 0,k=>k
 | m+1,k=>cond (u k) (jB u n m ((k+1) % n)) k
theorem QK5{u:Nat->Bool}{n:Nat}(hn:0<n):∀{m k:Nat},k<n->jB u n m k<n
 | 0,k,h=>h
 | m+1,k,h=>by
  simp only[jB];cases u k with
  | false=>exact h
  | true=>exact QK5 hn (Nat.mod_lt _ hn)
theorem QdY{u:Nat->Bool}{m k:Nat}(hk:k<n)(hu:u k=true)(h:∃ j,j<m/\u ((k+j) % n)=false):∃ m',m=m'+1/\∃ j,j<m'/\u (((k+1) % n+j) % n)=false:=by
 obtain⟨j,hj,h⟩:=h;cases j with
 | zero=>rw[Nat.add_zero,Nat.mod_eq_of_lt hk,hu]at h;cases h
 | succ j=>
  refine⟨m-1,by omega,j,by omega,?_⟩
  rw[Nat.mod_add_mod,show k+1+j=k+(j+1) by omega]
  exact h
theorem QTz(a:Int):∀ n:Nat,((List.range n).filter λp:Nat=>a==(p:Int)).length<=1/\((n:Int)<=a->((List.range n).filter λp:Nat=>a==(p:Int)).length=0)
 | 0=>⟨Nat.zero_le _,λ_=>rfl⟩
 | n+1=>by
  obtain⟨h1,h2⟩:=QTz a n;rw[List.range_succ,List.filter_append,List.length_append]
  by_cases h:a=n
  .have:=h2 (by omega)
   have e:([n].filter λp:Nat=>a==(p:Int)).length<=1:=List.length_filter_le _ _;exact⟨by omega,λq=>by omega⟩
  .have e:([n].filter λp:Nat=>a==(p:Int))=[]:=by
    rw[List.filter_cons,if_neg (by simpa using h)];rfl
   rw[e];exact⟨h1,λq=>h2 (by omega)⟩
theorem QNW{α:Type}(a b:α->Bool):∀ L:List α,(L.filter λx=>a x||b x).length<=(L.filter a).length+(L.filter b).length
 | []=>qlr _
 | x::L=>by
  have:=QNW a b L;rw[List.filter_cons,List.filter_cons,List.filter_cons];cases a x<;>cases b x<;>simp<;>omega
theorem QP5(n:Nat):∀ l:List Lay,((List.range n).filter (Q6 l)).length<=l.length
 | []=>by
  have:(List.range n).filter (Q6 [])=[]:=by rw[List.filter_eq_nil_iff];intro p _ h;cases h
  rw[this];exact qlr _
 | x::l=>by
  have h1:=QP5 n l;have h2:=(QTz x.piece n).1;have h3:=QNW (λp:Nat=>x.piece==(p:Int)) (Q6 l) (List.range n);have e:Q6 (x::l)=λp:Nat=>(x.piece==(p:Int))||Q6 l p:=rfl
  rw[e,List.length_cons];omega
theorem Qgn{l:List Lay}{k:Nat}(h:l.length<n)(hk:k<n):∃ j,j<n/\Q6 l ((k+j) % n)=false:=by
 obtain⟨p,hp,hu⟩:∃ p,p<n/\Q6 l p=false:=by
  apply Classical.byContradiction;intro hno
  have e:(List.range n).filter (Q6 l)=List.range n:=by
   rw[List.filter_eq_self];intro p hp;cases hu:Q6 l p with
   | true=>rfl
   | false=>exact absurd ⟨p,List.mem_range.1 hp,hu⟩ hno
  have:=QP5 n l;rw[e,List.length_range]at this;omega
 by_cases q:k<=p
 .exact⟨p-k,by omega,by rw[show k+(p-k)=p by omega,Nat.mod_eq_of_lt hp];exact hu⟩
 .exact⟨p+n-k,by omega,by rw[show k+(p+n-k)=p+n by omega,Nat.add_mod_right,Nat.mod_eq_of_lt hp];exact hu⟩
def wAt(w:Rw KJ)(i:Nat):Int:=i64.wrap (w.get ((i:Int).tmod (w.n:Int)).toNat).n
def otK(w:Rw KJ)(l:List Lay)(i:Nat):Nat:=jB (Q6 l) d.ps.n d.ps.n ((wAt w i).tmod d.ps.n).toNat
def otX(w:Rw KJ)(l:List Lay)(i:Nat):Lay:=⟨otK d w l i,cond d.turn (cond (decide ((otK d w l i:Int)>0)) (((wAt w i).fdiv 256).tmod 4) 0) 0⟩
def otL(d:Puz)(w:Rw KJ):Nat->List Lay
 | 0=>[]
 | c+1=>otL d w c++[otX d w (otL d w c) c]
theorem QCI(d:Puz)(w:Rw KJ):∀ c,(otL d w c).length=c
 | 0=>rfl
 | c+1=>by rw[otL,List.length_append,QCI d w c];rfl
structure Zx (w:Rw KJ):Prop where
 n:0<w.n
 v:∀ i,i<w.n->0<=(w.get i).n/\(w.get i).n<=65535
theorem Zx.idx{w:Rw KJ}(h:Zx w)(i:Nat):0<=(i:Int).tmod (w.n:Int)/\(i:Int).tmod (w.n:Int)<(w.n:Int):=by
 have:=h.n;exact⟨Int.tmod_nonneg _ (by omega),Int.tmod_lt_of_pos _ (by omega)⟩
theorem Zx.at_{w:Rw KJ}(h:Zx w)(i:Nat):0<=wAt w i/\wAt w i<=65535:=by
 obtain⟨h1,h2⟩:=h.idx i;have:=h.v ((i:Int).tmod (w.n:Int)).toNat (by omega)
 unfold wAt;rw[w64 (by omega) (by omega)]
 exact this
theorem QK2{d:Puz}{w:Rw KJ}(hw:Zx w)(hn:0<d.ps.n)(l:List Lay)(i:Nat):(0<=(wAt w i).tmod d.ps.n/\(wAt w i).tmod d.ps.n<d.ps.n)/\otK d w l i<d.ps.n:=by
 have h:=hw.at_ i
 have h1:0<=(wAt w i).tmod d.ps.n:=Int.tmod_nonneg _ h.1;have h2:(wAt w i).tmod d.ps.n<d.ps.n:=Int.tmod_lt_of_pos _ (by omega)
 exact⟨⟨h1,h2⟩,QK5 hn (by omega)⟩
theorem Qgf{d:Puz}(hn:d.ps.n<=1000)(w:Rw KJ)(l:List Lay)(i:Nat)(v:Int):JW (λs:Nat×Nat=>Zc d w l (QD l) i v s.2) (λs=>s.2<d.ps.n/\∃ j,j<s.1/\Q6 l ((s.2+j) % d.ps.n)=false) (λs=>s.1) (λs e J=>e = .exit 2/\J=Zc d w l (QD l) i v (jB (Q6 l) d.ps.n s.1 s.2)) 8 QQN [] (λ_=>mkE prog VK) (λ_=>hnd (mkE prog VK) 0) (QU (QH f26 0)):=by
 refine⟨λs g hs=>?_⟩;obtain⟨m,k⟩:=s;obtain⟨hk,hj⟩:=hs;have hk:k<d.ps.n:=hk
 have hw:(i64.wrap ((k:Int)+1)).tmod d.ps.n=(((k+1) % d.ps.n:Nat):Int):=by
  rw[w64 (by omega) (by omega),Int.tmod_eq_emod_of_nonneg (by omega)]
  exact(Int.natCast_emod (k+1) d.ps.n).symm
 have et:=QhO d w l (QD l) i v k g;refine Qf et ?_;clear et
 iterate 2 (refine QG ?_ ?_;rotate_left)
 refine QE (λb0=>?_) (λb0=>?_);refine QG ?_ ?_;rotate_left
 .have hu:Q6 l k=true:=by
   have:=qdt b0;unfold QD at this;cases h:Q6 l k with
   | true=>rfl
   | false=>rw[show(k:Int).toNat+0=k from rfl,h]at this;cases this
  obtain⟨m',rfl,hj'⟩:=QdY hk hu hj;refine⟨(m',(k+1) % d.ps.n),⟨Nat.mod_lt _ (by omega),hj'⟩,Nat.lt_succ_self _,λe J hr=>?_,rfl,rfl,_,QZJ d w l (QD l) i v k ((k+1) % d.ps.n),?_⟩
  .simp only[jB,hu,cond_true];exact hr
  repeat' first|with_reducible refine QL ?_ ?_|exact tv|with_reducible exact qRr|exact hw|exact rfl|refine aI ?_ ?_
 .have hu:Q6 l k=false:=by
   have:=qdf b0;unfold QD at this;cases h:Q6 l k with
   | false=>rfl
   | true=>rw[show(k:Int).toNat+0=k from rfl,h]at this;exact absurd rfl this
  have e:jB (Q6 l) d.ps.n m k=k:=by
   cases m with
   | zero=>rfl
   | succ m=>simp only[jB,hu,cond_false]
  refine⟨_,⟨rfl,congrArg (Zc d w l (QD l) i v) e.symm⟩,rfl,rfl,_,QVu d w l (QD l) i v k,?_⟩
  repeat' first|with_reducible refine QL ?_ ?_|exact tv|with_reducible exact qRr|exact rfl|refine aI ?_ ?_
 all_goals first|(simp;omega)
theorem Qer{d:Puz}{w:Rw KJ}(hw:Zx w)(hn:d.ps.n<=1000)(c:Nat)(G:Ctx)(hrd:G.rd=none)(hG:G.n<=8):Qw (mkE prog VK) G (otH prog d w (otL d w c) (QD (otL d w c)) c (wAt w c) ((wAt w c).tmod d.ps.n).toNat (otK d w (otL d w c) c)) (QH f26 0):=by
 refine KN (body:=QU (QH f26 0)) (QO zq) hrd (by kernel_rfl) ?_
 refine Jh λhc=>?_;have hk:=QK2 hw (by omega) (d:=d) (otL d w c) c
 have hl:=QCI d w c;refine Jo (I:=λs:Nat×Nat=>Zc d w (otL d w c) (QD (otL d w c)) c (wAt w c) s.2) (n0:=8) (λ_=>rfl) (λ_=>QO zq) hG (λj hj=>Qv (QO zq) 0 G _ hrd) (λj hj=>(by decide:8<=104)) ?_ (Qgf hn w (otL d w c) c (wAt w c)) (s0:=(d.ps.n,((wAt w c).tmod d.ps.n).toNat)) ⟨by show((wAt w c).tmod d.ps.n).toNat<d.ps.n;omega,Qgn (by omega) (by omega)⟩ ?_
 .rintro s e J ⟨_,rfl⟩;exact(by decide:8<=104)
 .rintro e J ⟨rfl,rfl⟩;exact⟨_,qmc,trivial,rfl,rfl⟩
theorem Qb7{d:Puz}{w:Rw KJ}(hw:Zx w)(hn:d.ps.n<=1000):JW (λc=>vM d w (otL d w c) (QD (otL d w c)) c) (λc=>c<=d.ps.n) (λc=>d.ps.n-c) (λ_ e J=>e = .exit 0/\J=otE (otL d w d.ps.n)) 8 QT1 [] (λ_=>mkE prog VK) (λc=>otH prog d w (otL d w c) (QD (otL d w c)) c (wAt w c) ((wAt w c).tmod d.ps.n).toNat (otK d w (otL d w c) c)) (QH f26 0):=by
 refine⟨λc g hc=>?_⟩;have hc:c<=d.ps.n:=hc;have hl:=QCI d w c;have hwn:=hw.n;have hix:=hw.idx c;have et:=QVN d w (otL d w c) (QD (otL d w c)) c (wAt w c) ((wAt w c).tmod d.ps.n).toNat (otK d w (otL d w c) c) g;refine Qf et ?_;clear et;refine QE (λb0=>?_) (λb0=>?_);have h:c<d.ps.n:=by have:=qdt b0;omega
 have hk:=QK2 hw (by omega) (d:=d) (otL d w c) c
 have hw1:i64.wrap ((c:Int)+1)=((c+1:Nat):Int):=Ja h hn;have hk0:(wAt w c).tmod d.ps.n=(((wAt w c).tmod d.ps.n).toNat:Int):=by omega
 have el:otL d w (c+1)=otL d w c++[otX d w (otL d w c) c]:=rfl;have es:(otL d w c++[otX d w (otL d w c) c]).length=(otL d w c).length+1:=List.length_append;have eu:=Z6 (otL d w c) d.ps.n (otK d w (otL d w c) c) (otX d w (otL d w c) c).turn;have ey:=Zd (otL d w c) (otX d w (otL d w c) c)
 iterate 4 (refine QG ?_ ?_;rotate_left)
 iterate 35 refine Qu (by first|exact tv|exact h|exact hk0|with_reducible exact qRr|exact rfl) ?_
 refine Qg λa0=>?_;refine Qj λg0=>?_
 iterate 2 (refine QG ?_ ?_;rotate_left)
 refine QE (λb1=>?_) (λb1=>?_);refine QE (λb2=>?_) (λb2=>?_);refine QG ?_ ?_;rotate_left
 .have ex:otX d w (otL d w c) c=⟨otK d w (otL d w c) c,((wAt w c).fdiv 256).tmod 4⟩:=by unfold otX;rw[b1,b2];rfl
  refine⟨c+1,h,by show d.ps.n-(c+1)<d.ps.n-c;omega,λ_ _ r=>r,rfl,rfl,_,QfW d w (otL d w c) (otL d w (c+1)) (QD (otL d w c)) (QD (otL d w (c+1))) c (c+1) (wAt w c) ((wAt w c).tmod d.ps.n).toNat (otK d w (otL d w c) c),?_⟩
  rw[el];rw[ex]at es eu ey ⊢
  repeat' first|with_reducible refine QL ?_ ?_|exact tv|with_reducible exact qRr|exact hw1|exact es.symm|exact es|exact Nat.le_of_eq es|exact eu|exact ey|exact rfl|refine aI ?_ ?_
 refine QG ?_ ?_;rotate_left
 .have ex:otX d w (otL d w c) c=⟨otK d w (otL d w c) c,0⟩:=by unfold otX;rw[b1,b2];rfl
  refine⟨c+1,h,by show d.ps.n-(c+1)<d.ps.n-c;omega,λ_ _ r=>r,rfl,rfl,_,Qg8 d w (otL d w c) (otL d w (c+1)) (QD (otL d w c)) (QD (otL d w (c+1))) c (c+1) (wAt w c) ((wAt w c).tmod d.ps.n).toNat (otK d w (otL d w c) c),?_⟩
  rw[el];rw[ex]at es eu ey ⊢
  repeat' first|with_reducible refine QL ?_ ?_|exact tv|with_reducible exact qRr|exact hw1|exact es.symm|exact es|exact Nat.le_of_eq es|exact eu|exact ey|exact rfl|refine aI ?_ ?_
 refine QG ?_ ?_;rotate_left
 .have ex:otX d w (otL d w c) c=⟨otK d w (otL d w c) c,0⟩:=by unfold otX;rw[b1];rfl
  refine⟨c+1,h,by show d.ps.n-(c+1)<d.ps.n-c;omega,λ_ _ r=>r,rfl,rfl,_,Qf0 d w (otL d w c) (otL d w (c+1)) (QD (otL d w c)) (QD (otL d w (c+1))) c (c+1) (wAt w c) ((wAt w c).tmod d.ps.n).toNat (otK d w (otL d w c) c),?_⟩
  rw[el];rw[ex]at es eu ey ⊢
  repeat' first|with_reducible refine QL ?_ ?_|exact tv|with_reducible exact qRr|exact hw1|exact es.symm|exact es|exact Nat.le_of_eq es|exact eu|exact ey|exact rfl|refine aI ?_ ?_
 obtain rfl:c=d.ps.n:=by have:=qdf b0;omega
 refine⟨_,⟨rfl,rfl⟩,rfl,rfl,_,Qd5 (otL d w d.ps.n),?_⟩
 rotate_left
 all_goals first|((with_reducible show _=true);(first|rfl|(simp;omega)))|(repeat' first|with_reducible refine QL ?_ ?_|exact tv|with_reducible exact qRr|exact rfl|refine aI ?_ ?_)
def vF(w:Rw KJ):Bool:=decide (0<w.n)&&(List.range w.n).all λi=>decide (0<=(w.get i).n/\(w.get i).n<=65535)
theorem Qip{w:Rw KJ}:vF w=true↔Zx w:=by
 unfold vF;rw[qbA,qdE,List.all_eq_true];constructor
 .rintro⟨h1,h3⟩;exact⟨h1,λi hi=>qdt (h3 i (List.mem_range.2 hi))⟩
 .intro h;exact⟨h.n,λi hi=>qde (h.v i (List.mem_range.1 hi))⟩
abbrev QC7(w:Rw KJ)(l:List Lay):Code->St->(Ex->St->QC)->QC:=λ_=>KC 8 [] (vM d w [] (QD []) (0:Nat)) [(True,.exit 0,otE l)]
theorem Qb3{d:Puz}{w:Rw KJ}(hw:Zx w)(hn:d.ps.n<=1000)(G:Ctx)(hrd:G.rd=none)(hG:G.n=8):Qw (mkE prog VK) G { hnd (mkE prog VK) 1 with loop:=QC7 d w (otL d w d.ps.n) } (Qk f26):=by
 refine KN (body:=QH f26 0) (QO zq) hrd (by kernel_rfl) ?_
 exact Jo (E0:=mkE prog VK) (I:=λc=>vM d w (otL d w c) (QD (otL d w c)) c) (n0:=8) (ids':=[]) (X:=[(True,.exit 0,otE (otL d w d.ps.n))]) (λ_=>rfl) (λ_=>QO zq) (by omega) (λc _=>Qer hw hn c G hrd (by omega)) (λj hj=>(by decide:8<=104)) (by rintro s e J ⟨_,rfl⟩;exact(by decide:8<=104)) (Qb7 hw hn) (s0:=0) (Nat.zero_le _) (by
  rintro e J ⟨rfl,rfl⟩;exact⟨_,qmc,trivial,rfl,rfl⟩)
theorem QYs:QF 8 [.slz 96 0 l.length cO] [rwY 96 l] (KW 8 (.slz 0 0 l.length cO) [rwY 0 l])=( some ([0=0,l.length=l.length,cO=cO]++wba l)):=by kernel_rfl
def QBD:WF (Puz×(Rw KJ)×Unit):=λ|(d,(w,_))=>(decide (d.ps.n<=1000)&&vF w,.slz 0 0 (otL d w d.ps.n).length (.of 0),[rwY 0 (otL d w d.ps.n)])
def QRH:FC:=wFC QBD
theorem QX5(w:(Rw KJ)):Kd (mkE prog VK) { hnd (mkE prog VK) 1 with loop:=QC7 d w (otL d w d.ps.n) } f26 (Qb.vals 0 ((d,w,()):Puz×(Rw KJ)×Unit)) (Qb.blks 0 ((d, w,()):Puz×(Rw KJ)×Unit)) 8 = .need (decide ((d.ps.n:Int)=(d.ps.n:Int))&&decide ((0:Int)<=(d.ps.n:Int)/\(d.ps.n:Int)<=17179869184)) (.ak (([0=0,w.n=w.n,cO=cO,0=0,0=0,0=0,0=0]++wbF d++[(0:Int)=0,d.ps.n<=d.ps.n,QB 1 d.ps.n (λx x_1=>(0:Int)) (QD [])])++waa d++([cO=cO,0=0]++wad d++[w.n<=w.n,QB 1 w.n (λi=>QA.enc (w.get i)) λi=>QA.enc (w.get i)])) (.asm (True) (.all (λ(g0:Nat->Value)=>.leaf (.slz 96 0 (otL d w d.ps.n).length cO) ([(96,.rowz true 49 kB (otL d w d.ps.n).length λi=>QA.enc ((otL d w d.ps.n).getD i (Lay.mk (0:Int) (0:Int))))]))))):=by kernel_rfl
theorem QdE:JA (mkE prog VK) (Qk f26) 8 QBD (λx_=>{ hnd (mkE prog VK) 1 with loop:=QC7 x_.1 x_.2.1 (otL x_.1 x_.2.1 x_.1.ps.n) }):=by
 refine⟨?_⟩;rintro⟨d,⟨w,⟨⟩⟩⟩ hp G h1 h2;exact Qb3 (Qip.1 (qbA _ _ ▸ hp).2) (qdt (qbA _ _ ▸ hp).1) G h1 h2
theorem QjO:JB (mkE prog VK) f26 8 QBD (λx_=>{ hnd (mkE prog VK) 1 with loop:=QC7 x_.1 x_.2.1 (otL x_.1 x_.2.1 x_.1.ps.n) }):=by
 refine⟨?_⟩;rintro⟨d,⟨w,⟨⟩⟩⟩ hp;refine⟨⟨rfl,by simp[QBD,rwY,Blk.own,Blk.all],rfl⟩,⟨?_⟩⟩
 rw[QX5 d w];simp only[QBD]at hp;have hz:∀ k,QB 1 k (λ_ _=>0) (QD []):=λk i _=>⟨rfl,trivial⟩;have hn:d.ps.n<=1000:=qdt (qbA _ _ ▸ hp).1;refine QG ?_ ?_;rotate_left
 iterate 29 refine Qu (by first|exact tv|with_reducible exact qRr|exact hz _|exact rfl) ?_
 refine Qg λa0=>?_;refine Qj λg0=>?_;refine⟨rfl,rfl,_,QYs _,?_⟩
 rotate_left
 all_goals first|((with_reducible show _=true);(first|rfl|(simp;omega)))|(repeat' first|with_reducible refine QL ?_ ?_|exact tv|with_reducible exact qRr|exact rfl|refine aI ?_ ?_)
theorem QcC:QR prog 26 QRH:=
 JL (QO zq) func26 (by kernel_rfl) (by kernel_rfl) (by decide) QdE QjO
open Go Go.SX Go.SX.Told
theorem QKY{p q:Nat->Bool}:∀{m k:Nat},(∀ i,k<=i->i<k+m->p i=q i)->QP p m k=QP q m k
 | 0,_,_=>rfl
 | m+1,k,h=>by
  simp only[QP];rw[h k (qlr _) (by omega),QKY (m:=m) (k:=k+1) λi h1 h2=>h i (by omega) (by omega)]
def rkL(L:List Lay):RkL:=⟨L.length,λi=>L.getD i ⟨0,0⟩⟩
def rwL(L:List Lay):Rw Lay:=⟨L.length,λi=>L.getD i ⟨0,0⟩⟩
theorem QgO(L:List Lay){i:Nat}(hi:i<=L.length)(x:Lay):(QP (rmQ ⟨i,λk=>L.getD k ⟨0,0⟩⟩ x) i 0).isNone = !ZT (L.take i) x:=by
 have e:∀ k (h:k<i),rmQ ⟨i,λk=>L.getD k ⟨0,0⟩⟩ x k=((L[k]'(by omega)).piece==x.piece):=λk h=>by
  show((L.getD k ⟨0,0⟩:Lay).piece==x.piece)=_;rw[Vu (by omega)]
 cases hf:QP (rmQ ⟨i,λk=>L.getD k ⟨0,0⟩⟩ x) i 0 with
 | some k=>
  obtain⟨_,h2,h3,_⟩:=QFn hf;rw[e k (by omega)]at h3
  have:ZT (L.take i) x=true:=List.any_eq_true.2 ⟨L[k]'(by omega),List.mem_take_iff_getElem.2 ⟨k,by omega,rfl⟩,h3⟩
  rw[this];rfl
 | none=>
  have:ZT (L.take i) x=false:=List.any_eq_false.2 λy hy=>by
   obtain⟨k,hk,rfl⟩:=List.mem_take_iff_getElem.1 hy;have:=jX hf k (Nat.zero_le _) (by omega)
   rw[e k (by omega)]at this
   rw[this];decide
  rw[this];rfl
variable {n:Nat}{x:Lay}{L:List Lay}(d:Puz)
theorem QiJ{d:Puz}(hd:KO d)(hn:n<=1000)(x:Lay):(QP (JR d x (rmW d n)) 4 0).isNone=Yp d n x:=by
 have h1:=hd.w1;have h2:=hd.wn;have h3:=hd.n;have h4:=hd.h1;have h5:=hd.hn;have hr:=QCO hd n;unfold Qq at hr;have wr:i64.wrap ((n:Int).tdiv d.wide)=(n:Int).tdiv d.wide:=w64 (by omega) (by omega)
 have ww:i64.wrap (d.wide-1)=d.wide-1:=w64 (by omega) (by omega)
 have wh:i64.wrap (d.high-1)=d.high-1:=w64 (by omega) (by omega)
 unfold Yp;rw[QKY];intro i _ hi;unfold JR Ky Ko;congr 1
 match i,hi with
 | 0,_=>show(i64.wrap ((n:Int).tdiv d.wide)==0)=_;rw[wr];rfl
 | 1,_=>show((n:Int).tmod d.wide==i64.wrap (d.wide-1))=_;rw[ww];rfl
 | 2,_=>show(i64.wrap ((n:Int).tdiv d.wide)==i64.wrap (d.high-1))=_;rw[wr,wh];rfl
 | 3,_=>rfl
 | i+4,hi=>omega
theorem QNf{d:Puz}{p q:Lay}(hp:KD d p)(hq:KD d q)(hne:p.piece≠q.piece){s t:Int}(hs:0<=s)(ht:0<=t):Xz (QK d) p q s t=(Kq d.pK (sdR d p s) (sdR d q t)).1:=by
 have h1:=QOm hp hs;have h2:=QOm hq ht;unfold Xz;rw[QBz,if_pos ⟨hp.p.1,hp.p.2,h1.1,h1.2,hq.p.1,hq.p.2,h2.1,h2.2,hne⟩];rfl
theorem QPJ{d:Puz}(hd:KO d){L:List Lay}(hL:∀ y∈L,KD d y){i:Nat}(hi:i<=L.length)(hl:L.length<=1000)(hx:KD d x):rmV d ⟨i,λk=>L.getD k ⟨0,0⟩⟩ x=(!ZT (L.take i) x&&Q7 d (QK d) (L.take i) x):=by
 have h1:=hd.w1;have h2:=hd.wn;have h3:=hd.n;have hlen:(L.take i).length=i:=by rw[List.length_take];omega
 have hr:=QCO hd i;unfold Qq at hr;have wr:i64.wrap ((i:Int).tdiv d.wide)=(i:Int).tdiv d.wide:=w64 (by omega) (by omega)
 have wu:i64.wrap ((i:Int)-d.wide)=(i:Int)-d.wide:=w64 (by omega) (by omega)
 have wl:i64.wrap ((i:Int)-1)=(i:Int)-1:=w64 (by omega) (by omega)
 unfold rmV Q7;simp only;rw[QgO L hi,QiJ hd (by omega),hlen,wr,wu,wl]
 cases hu:ZT (L.take i) x with
 | true=>rfl
 | false=>
  have hat:∀ k:Int,0<=k->k<i->atL (L.take i) k=(L.getD k.toNat ⟨0,0⟩:Lay)/\KD d (L.getD k.toNat ⟨0,0⟩)/\(L.getD k.toNat ⟨0,0⟩:Lay).piece≠x.piece:=by
   intro k h0 hk;have hkl:k.toNat<L.length:=by omega
   have e1:atL (L.take i) k=L[k.toNat]:=by
    unfold atL;rw[Vu (by rw[hlen];omega),List.getElem_take]
   rw[Vu hkl];refine⟨e1,hL _ (List.getElem_mem hkl),λe=>?_⟩;have:=List.any_eq_false.1 hu L[k.toNat] (List.mem_take_iff_getElem.2 ⟨k.toNat,by omega,rfl⟩)
   exact this (beq_iff_eq.2 e)
  have er:(decide ((i:Int).tdiv d.wide>0))=decide (0<Qq d i):=rfl
  have e2:(!decide ((i:Int).tdiv d.wide>0) || !((Kq d.pK (sdR d (L.getD ((i:Int)-d.wide).toNat ⟨0,0⟩) 2) (sdR d x 0)).1==0))=(!decide (0<Qq d i) || !(Xz (QK d) (atL (L.take i) ((i:Int)-d.wide)) x 2 0==0)):=by
   rw[er];cases hrow:decide (0<Qq d i)with
   | false=>rfl
   | true=>
    have hp:=QGH hd (qdt hrow);obtain⟨q1,q2,q3⟩:=hat ((i:Int)-d.wide) (by omega) (by omega)
    rw[q1,QNf q2 hx q3 (by decide) (by decide)]
  have e3:((i:Int).tmod d.wide==0||(Kq d.pK (sdR d (L.getD ((i:Int)-1).toNat ⟨0,0⟩) 1) (sdR d x 3)).1 != 0)=(KB d i==0||Xz (QK d) (atL (L.take i) ((i:Int)-1)) x 1 3 != 0):=by
   show(KB d i==0||_)=_
   cases hcol:KB d i==0 with
   | true=>rfl
   | false=>
    have hp:=QBa hcol;obtain⟨q1,q2,q3⟩:=hat ((i:Int)-1) (by omega) (by omega)
    rw[q1,QNf q2 hx q3 (by decide) (by decide)]
  rw[e2,e3]
theorem QJW{d:Puz}(hn:d.ps.n<=1000):rsA d x=true/\rsC d x=true↔x∈Zs d:=by
 have ht:=QLB d x.piece;constructor
 .rintro⟨h1,h2⟩;have hi:=QOf hn h1 h2;obtain⟨⟨p1,p2⟩,t1,t2⟩:=hi;unfold rsC Qz at h2;have h2:=qdt h2;rw[w64 (by omega) (by omega)]at h2
  refine QJF.2 ⟨x.piece.toNat,x.turn.toNat,by omega,?_,?_⟩
  .unfold QZ;rw[Int.toNat_of_nonneg p1];omega
  .obtain⟨p,t⟩:=x;simp only at p1 t1;rw[Int.toNat_of_nonneg p1,Int.toNat_of_nonneg t1]
 .intro h;obtain⟨p,t,hp,ht2,rfl⟩:=QJF.1 h;unfold QZ at ht2;simp only at ht;unfold rsA rsC Qz;simp only;rw[qdE,qdE,w64 (by omega) (by omega),w64 (by omega) (by omega)]
  omega
theorem QIm{d:Puz}(hd:KO d)(hl:L.length<=1000):Jf d (rkL L)=true↔L∈JO d (QK d):=by
 have hn:=hd.n;rw[QAj];unfold Jf;rw[qbA,Bool.not_eq_true',bne_eq_false_iff_eq];have get:∀ i (h:i<L.length),(rkL L).get i=L[i]:=λi h=>Vu h;constructor
 .rintro⟨h1,h2⟩;have h1:(L.length:Int)=d.ps.n:=h1;have hno:QP (VV d (rkL L)) L.length 0=none:=Option.isNone_iff_eq_none.1 h2
  have hb:∀ i (h:i<L.length),(rsA d L[i]=true/\rsC d L[i]=true)/\rmV d ⟨i,λk=>L.getD k ⟨0,0⟩⟩ L[i]=true:=by
   intro i h;have:=jX hno i (Nat.zero_le _) (by omega)
   unfold VV at this;rw[get i h,Bool.or_eq_false_iff,Bool.or_eq_false_iff,Bool.not_eq_false',Bool.not_eq_false',Bool.not_eq_false']at this;exact⟨⟨this.1,this.2.1⟩,this.2.2⟩
  have hL:∀ y∈L,KD d y:=by
   intro y hy;obtain⟨i,hi,rfl⟩:=List.mem_iff_getElem.1 hy;exact QMd ((QJW hn).1 (hb i hi).1)
  refine⟨by omega,λi hi=>⟨(QJW hn).1 (hb i hi).1,?_⟩⟩
  have:=(hb i hi).2;rw[QPJ hd hL (Nat.le_of_lt hi) hl (hL _ (List.getElem_mem hi)),qbA,Bool.not_eq_true']at this;exact this
 .intro h
  have hL:∀ y∈L,KD d y:=by
   intro y hy;obtain⟨i,hi,rfl⟩:=List.mem_iff_getElem.1 hy;exact h.lay hi
  refine⟨by show(L.length:Int)=d.ps.n;rw[h.len],?_⟩
  rw[Option.isNone_iff_eq_none];refine QJx λi _ hi=>?_;have hi:i<L.length:=by have:i<0+L.length:=hi;omega
  have hs:=h.st i hi;have hr:=(QJW hn).2 hs.1;unfold VV;rw[get i hi,hr.1,hr.2]
  have:rmV d ⟨i,(rkL L).get⟩ L[i]=true:=by
   show rmV d ⟨i,λk=>L.getD k ⟨0,0⟩⟩ L[i]=true;rw[QPJ hd hL (Nat.le_of_lt hi) hl (hL _ (List.getElem_mem hi)),hs.2.1,hs.2.2];rfl
  rw[this];rfl
def ltP(x y:Lay):Prop:=ZO x y=true
theorem QFb{y:Lay}:ltP x y↔x.piece<y.piece∨x.piece=y.piece/\x.turn<y.turn:=by
 unfold ltP ZO;rw[qbO,qbA,qdE,qdE,beq_iff_eq]
theorem QcH:(Zs d).Pairwise ltP:=by
 unfold Zs;rw[List.pairwise_flatMap];refine⟨λp _=>?_,List.Pairwise.imp (R:=λa b=>a<b) (λ{p p'} hp x hx y hy=>?_) (List.pairwise_lt_range)⟩
 .rw[List.pairwise_map];refine List.Pairwise.imp ?_ (List.pairwise_lt_range (n:=QZ d p));intro t t' ht;exact QFb.2 (.inr ⟨rfl,show(t:Int)<t' by omega⟩)
 .obtain⟨t,_,rfl⟩:=List.mem_map.1 hx;obtain⟨t',_,rfl⟩:=List.mem_map.1 hy;have hp:p<p':=hp;exact QFb.2 (.inl (by show(p:Int)<p';omega))
theorem QOL(E:ECt):(JO d E).Pairwise (QBC ltP):=QQn _ _ _ (λ_=>QcH d) _ _
theorem QMN(a b:Rw Lay){i:Nat}(h:a.get i=b.get i):lyQ a b i=false:=by unfold lyQ;rw[h];simp
theorem QSS{p:List Lay}{y:Lay}(s t:List Lay)(hne:x.piece=y.piece->x.turn≠y.turn):QP (lyQ (rwL (p++x::s)) (rwL (p++y::t))) (p++x::s).length 0=some p.length:=by
 have g1:∀(z:Lay) (u:List Lay),(rwL (p++z::u)).get p.length=z:=λz u=>by
  show((p++z::u).getD p.length ⟨0,0⟩:Lay)=z;rw[List.getD_eq_getElem?_getD,List.getElem?_append_right (qlr _)];simp
 have g2:∀(z:Lay) (u:List Lay) (i:Nat),i<p.length->(rwL (p++z::u)).get i=p.getD i ⟨0,0⟩:=λz u i hi=>by
  show((p++z::u).getD i ⟨0,0⟩:Lay)=_;rw[List.getD_eq_getElem?_getD,List.getD_eq_getElem?_getD,List.getElem?_append_left hi]
 have hq:lyQ (rwL (p++x::s)) (rwL (p++y::t)) p.length=true:=by
  unfold lyQ;rw[g1,g1];cases h1:x.piece==y.piece with
  | false=>rfl
  | true=>rw[beq_eq_false_iff_ne.2 (hne (beq_iff_eq.1 h1))];rfl
 have hlt:p.length<(p++x::s).length:=by rw[List.length_append,List.length_cons];omega
 cases hf:QP (lyQ (rwL (p++x::s)) (rwL (p++y::t))) (p++x::s).length 0 with
 | none=>
  have:=jX hf p.length (Nat.zero_le _) (by omega)
  rw[hq]at this;cases this
 | some i=>
  obtain⟨_,h2,h3,h4⟩:=QFn hf;rcases Nat.lt_trichotomy i p.length with h|h|h
  .rw[QMN _ _ (by rw[g2 x s i h,g2 y t i h])]at h3;cases h3
  .rw[h]
  .have:=h4 p.length (Nat.zero_le _) h;rw[hq]at this;cases this
theorem QG9{a b:List Lay}(h:QBC ltP a b):lsV (rwL a) (rwL b)=true/\lsV (rwL b) (rwL a)=false:=by
 obtain⟨p,x,y,s,t,rfl,rfl,hlt⟩:=h;have h1:=QFb.1 hlt
 have g1:∀(z:Lay) (u:List Lay),(rwL (p++z::u)).get p.length=z:=λz u=>by
  show((p++z::u).getD p.length ⟨0,0⟩:Lay)=z;rw[List.getD_eq_getElem?_getD,List.getElem?_append_right (qlr _)];simp
 constructor
 .unfold lsV;rw[show(rwL (p++x::s)).n=(p++x::s).length from rfl,QSS s t (by omega)]
  show ZO _ _=true;rw[g1,g1];exact hlt
 .unfold lsV;rw[show(rwL (p++y::t)).n=(p++y::t).length from rfl,QSS t s (by omega)]
  show ZO _ _=false;rw[g1,g1,Bool.eq_false_iff];intro q;have:=QFb.1 (show ltP y x from q);omega
theorem QAf(a:List Lay):lsV (rwL a) (rwL a)=false:=by
 unfold lsV;have:QP (lyQ (rwL a) (rwL a)) (rwL a).n 0=none:=QJx λi _ _=>QMN _ _ rfl;rw[this]
theorem QOJ{d:Puz}{E:ECt}{S1 S2:List (List Lay)}{a l:List Lay}(hs:JO d E=S1++a::S2)(hl:l∈JO d E):l∈S1∨l=a∨l∈S2/\QBC ltP a l:=by
 have hp:=QOL d E;rw[hs]at hp hl;rcases List.mem_append.1 hl with h|h
 .exact .inl h
 .rcases List.mem_cons.1 h with h|h
  .exact .inr (.inl h)
  .exact .inr (.inr ⟨h,(List.pairwise_cons.1 (List.pairwise_append.1 hp).2.1).1 _ h⟩)
theorem QRB{d:Puz}(hd:KO d)(h:L∈JO d (QK d)):Jf d (rkL L)=true:=by
 have hl:=(QAj.1 h).len;have hn:=hd.n;exact(QIm hd (by omega)).2 h
theorem QbN{d:Puz}(ho:d.ok=true)(hl:L.length<=1000)(h:((QX d).2.2.2 != 0)=true):QX d=([],[],0,4)/\Jf d (rkL L)=false:=by
 have hd:=(ZA (Y4 ho)).1;have es:=QOr ho;cases hs:JO d (QK d)with
 | nil=>
  rw[hs]at es;refine⟨es,?_⟩;rw[Bool.eq_false_iff];intro q;have:=(QIm hd hl).1 q;rw[hs]at this;cases this
 | cons a L=>rw[hs]at es;rw[es]at h;cases h
theorem QZC{d:Puz}(ho:d.ok=true){l:List Lay}(hl:l.length<=1000)(h:((QX d).2.2.2 != 0)=false):
  ((QX d).1.length=d.ps.n/\((QX d).2.2.1>1->(QX d).2.1.length=d.ps.n))/\(1<=(QX d).2.2.1/\(QX d).2.2.1<=100)/\Jf d (rkL (QX d).1)=true/\(((QX d).2.2.1==1) != (((QX d).2.1.length:Int)==0))=false /\
  ((QX d).2.2.1>1->Jf d (rkL (QX d).2.1)=true/\lsV (rwL (QX d).1) (rwL (QX d).2.1)=true) /\
  (Jf d (rkL l)=true->lsV (rwL l) (rwL (QX d).1)=false/\(lsV (rwL (QX d).1) (rwL l)=true->((QX d).2.2.1==1)=false/\lsV (rwL l) (rwL (QX d).2.1)=false)):=by
 obtain⟨hd,hpos,h9⟩:=ZA (Y4 ho);have es:=QOr ho;have hin:=QIm hd (L:=l) hl;cases hs:JO d (QK d)with
 | nil=>rw[hs]at es;rw[es]at h;cases h
 | cons a L=>
  rw[hs]at es;have ha:a∈JO d (QK d):=by rw[hs];exact qmc
  have ra:=QRB hd ha;cases L with
  | nil=>
   have es:QX d=(a,[],1,0):=es;rw[es];refine⟨⟨(QAj.1 ha).len,λq=>absurd q (show ¬ (1:Int)>1 by decide)⟩,(show(1:Int)<=1/\(1:Int)<=100 by decide),ra,rfl,λq=>absurd q (show ¬ (1:Int)>1 by decide),λq=>?_⟩
   have hm:=hin.1 q;rw[hs]at hm;obtain rfl:l=a:=List.mem_singleton.1 hm;exact⟨QAf l,λq2=>by rw[show lsV (rwL l) (rwL l)=false from QAf l]at q2;cases q2⟩
  | cons b L=>
   have es:QX d=(a,b,((min (a::b::L).length 100:Nat):Int),0):=es;have hmin:2<=min (a::b::L).length 100/\min (a::b::L).length 100<=100:=by simp only[List.length_cons];omega
   have hb:b∈JO d (QK d):=by rw[hs];exact List.mem_cons_of_mem _ qmc
   have hbl:=(QAj.1 hb).len;rw[es];generalize min (a::b::L).length 100=N at hmin;have n1:(((N:Nat):Int)==1)=false:=beq_eq_false_iff_ne.2 (by omega)
   have hp:=QOL d (QK d);rw[hs]at hp;have hab:QBC ltP a b:=(List.pairwise_cons.1 hp).1 b qmc;refine⟨⟨(QAj.1 ha).len,λ_=>hbl⟩,⟨by show(1:Int)<=(N:Int);omega,by show(N:Int)<=100;omega⟩,ra,?_,λ_=>⟨QRB hd hb,(QG9 hab).1⟩,λq=>?_⟩
   .show(((N:Int)==1) != ((b.length:Int)==0))=false;rw[n1,beq_eq_false_iff_ne.2 (show(b.length:Int)≠0 by omega)];rfl
   .have hm:=hin.1 q;have t1:=QOJ (S1:=[]) hs hm;have t2:=QOJ (S1:=[a]) (a:=b) (S2:=L) hs hm;refine⟨?_,λq2=>⟨n1,?_⟩⟩
    .rcases t1 with t|rfl|⟨_,t⟩
     .cases t
     .exact QAf _
     .exact(QG9 t).2
    .rcases t2 with t|rfl|⟨_,t⟩
     .obtain rfl:l=a:=List.mem_singleton.1 t;rw[show lsV (rwL l) (rwL l)=false from QAf l]at q2;cases q2
     .exact QAf _
     .exact(QG9 t).2
def jm:Tab:=Qa (Qa (Qa (Qa (Qa QJX 16 QC4) 24 (zk QIu)) 26 (zk QRH)) 27 (zk QUb)) 28 (zk QMI)
theorem QQF:Qc jm:=((((QOR.add QPl).add (QAO QRW)).add (QAO QcC)).add (QAO QhL)).add (QAO Qad)
def QDR(w:Rw KJ):Bool:=(List.range w.n).all λi=>decide (0<=(w.get i).n/\(w.get i).n<=65535)
theorem QXQ{w:Rw KJ}(h:QDR w=true)(hn:w.n≠0):vF w=true:=by
 unfold vF;rw[qde (by omega)]
 exact h
theorem Qh8{w:Rw KJ}(h:∀ i,i<w.n->0<=(w.get i).n/\(w.get i).n<=65535):QDR w=true:=by
 unfold QDR;rw[List.all_eq_true];exact λi hi=>qde (h i (List.mem_range.1 hi))
def QEu:WF (Puz×(Rw KJ)×Unit):=λ|(d,(w,_))=>(QDR w,.bool false true,[])
theorem Qhz(w:(Rw KJ)):Kd (mkF prog jm) (hnd (mkF prog jm) 1) f4 (Qb.vals 0 ((d,w,()):Puz×(Rw KJ)×Unit)) (Qb.blks 0 ((d,w,()):Puz×(Rw KJ)×Unit)) 8 = .need (decide (d.ps.n<=d.ps.n)&&(true&&true)&&true) (.br (Zo d (9:Int)) (.leaf (.bool true true) ([])) (.br ((w.n:Int)==0) (.leaf (.bool true true) ([])) (.need (decide (d.ps.n<=d.ps.n)&&true&&decide (d.ps.n<=1000)) (.need (decide (d.ps.n<=d.ps.n)&&true&&decide (d.ps.n<=1000)) (.br (!d.ok) (.br ((↑(QX d).1.length:Int)==0) (.br ((↑(QX d).2.1.length:Int)==0) (.br ((QX d).2.2.1==0) (.br ((QX d).2.2.2==1) (.leaf (.bool true true) ([])) (.leaf (.bool true false) ([]))) (.leaf (.bool true false) ([]))) (.leaf (.bool true false) ([]))) (.leaf (.bool true false) ([]))) (.need (decide (d.ps.n<=d.ps.n)&&(decide (w.n<=w.n)&&true)&&(decide (d.ps.n<=1000)&&vF w)) (.need (decide (d.ps.n<=d.ps.n)&&(decide ((otL d w d.ps.n).length<=(otL d w d.ps.n).length)&&true)&&decide (d.ps.n<=1000/\(otL d w d.ps.n).length<=1000/\(1:Int)<=d.wide/\d.wide<=1000)) (.br ((QX d).2.2.2 != 0) (.br ((↑(QX d).1.length:Int)==0) (.br ((↑(QX d).2.1.length:Int)==0) (.br ((QX d).2.2.1==0) (.br ((QX d).2.2.2==4) (.br (!Jf d (RkL.mk (otL d w d.ps.n).length λi=>(otL d w d.ps.n).getD i (Lay.mk (0:Int) (0:Int)))) (.leaf (.bool true true) ([])) (.leaf (.bool true false) ([]))) (.leaf (.bool true false) ([]))) (.leaf (.bool true false) ([]))) (.leaf (.bool true false) ([]))) (.leaf (.bool true false) ([]))) (.br (decide ((QX d).2.2.1<1)) (.leaf (.bool true false) ([])) (.br (decide ((QX d).2.2.1>100)) (.leaf (.bool true false) ([])) (.need (decide (d.ps.n<=d.ps.n)&&(decide ((QX d).1.length<=(QX d).1.length)&&true)&&decide (d.ps.n<=1000/\(QX d).1.length<=1000/\(1:Int)<=d.wide/\d.wide<=1000)) (.br (!Jf d (RkL.mk (QX d).1.length λi=>(QX d).1.getD i (Lay.mk (0:Int) (0:Int)))) (.leaf (.bool true false) ([])) (.br (!((QX d).2.2.1==1)==((↑(QX d).2.1.length:Int)==0)) (.leaf (.bool true false) ([])) (.br (decide ((QX d).2.2.1>1)) (.need (decide (d.ps.n<=d.ps.n)&&(decide ((QX d).2.1.length<=(QX d).2.1.length)&&true)&&decide (d.ps.n<=1000/\(QX d).2.1.length<=1000/\(1:Int)<=d.wide/\d.wide<=1000)) (.br (!Jf d (RkL.mk (QX d).2.1.length λi=>(QX d).2.1.getD i (Lay.mk (0:Int) (0:Int)))) (.leaf (.bool true false) ([])) (.need (decide ((QX d).1.length<=(QX d).1.length)&&(decide ((QX d).2.1.length<=(QX d).2.1.length)&&true)&&decide ((QX d).1.length<=(QX d).2.1.length/\(QX d).1.length<=1000000)) (.br (!lsV (Rw.mk (QX d).1.length λi=>(QX d).1.getD i (Lay.mk (0:Int) (0:Int))) (Rw.mk (QX d).2.1.length λi=>(QX d).2.1.getD i (Lay.mk (0:Int) (0:Int)))) (.leaf (.bool true false) ([])) (.br (Jf d (RkL.mk (otL d w d.ps.n).length λi=>(otL d w d.ps.n).getD i (Lay.mk (0:Int) (0:Int)))) (.need (decide ((otL d w d.ps.n).length<=(otL d w d.ps.n).length)&&(decide ((QX d).1.length<=(QX d).1.length)&&true)&&decide ((otL d w d.ps.n).length<=(QX d).1.length/\(otL d w d.ps.n).length<=1000000)) (.br (lsV (Rw.mk (otL d w d.ps.n).length λi=>(otL d w d.ps.n).getD i (Lay.mk (0:Int) (0:Int))) (Rw.mk (QX d).1.length λi=>(QX d).1.getD i (Lay.mk (0:Int) (0:Int)))) (.leaf (.bool true false) ([])) (.need (decide ((QX d).1.length<=(QX d).1.length)&&(decide ((otL d w d.ps.n).length<=(otL d w d.ps.n).length)&&true)&&decide ((QX d).1.length<=(otL d w d.ps.n).length/\(QX d).1.length<=1000000)) (.br (lsV (Rw.mk (QX d).1.length λi=>(QX d).1.getD i (Lay.mk (0:Int) (0:Int))) (Rw.mk (otL d w d.ps.n).length λi=>(otL d w d.ps.n).getD i (Lay.mk (0:Int) (0:Int)))) (.br ((QX d).2.2.1==1) (.leaf (.bool true false) ([])) (.need (decide ((otL d w d.ps.n).length<=(otL d w d.ps.n).length)&&(decide ((QX d).2.1.length<=(QX d).2.1.length)&&true)&&decide ((otL d w d.ps.n).length<=(QX d).2.1.length/\(otL d w d.ps.n).length<=1000000)) (.br (lsV (Rw.mk (otL d w d.ps.n).length λi=>(otL d w d.ps.n).getD i (Lay.mk (0:Int) (0:Int))) (Rw.mk (QX d).2.1.length λi=>(QX d).2.1.getD i (Lay.mk (0:Int) (0:Int)))) (.leaf (.bool true false) ([])) (.leaf (.bool true true) ([]))))) (.leaf (.bool true true) ([])))))) (.leaf (.bool true true) ([]))))))) (.br (Jf d (RkL.mk (otL d w d.ps.n).length λi=>(otL d w d.ps.n).getD i (Lay.mk (0:Int) (0:Int)))) (.need (decide ((otL d w d.ps.n).length<=(otL d w d.ps.n).length)&&(decide ((QX d).1.length<=(QX d).1.length)&&true)&&decide ((otL d w d.ps.n).length<=(QX d).1.length/\(otL d w d.ps.n).length<=1000000)) (.br (lsV (Rw.mk (otL d w d.ps.n).length λi=>(otL d w d.ps.n).getD i (Lay.mk (0:Int) (0:Int))) (Rw.mk (QX d).1.length λi=>(QX d).1.getD i (Lay.mk (0:Int) (0:Int)))) (.leaf (.bool true false) ([])) (.need (decide ((QX d).1.length<=(QX d).1.length)&&(decide ((otL d w d.ps.n).length<=(otL d w d.ps.n).length)&&true)&&decide ((QX d).1.length<=(otL d w d.ps.n).length/\(QX d).1.length<=1000000)) (.br (lsV (Rw.mk (QX d).1.length λi=>(QX d).1.getD i (Lay.mk (0:Int) (0:Int))) (Rw.mk (otL d w d.ps.n).length λi=>(otL d w d.ps.n).getD i (Lay.mk (0:Int) (0:Int)))) (.br ((QX d).2.2.1==1) (.leaf (.bool true false) ([])) (.need (decide ((otL d w d.ps.n).length<=(otL d w d.ps.n).length)&&(decide ((QX d).2.1.length<=(QX d).2.1.length)&&true)&&decide ((otL d w d.ps.n).length<=(QX d).2.1.length/\(otL d w d.ps.n).length<=1000000)) (.br (lsV (Rw.mk (otL d w d.ps.n).length λi=>(otL d w d.ps.n).getD i (Lay.mk (0:Int) (0:Int))) (Rw.mk (QX d).2.1.length λi=>(QX d).2.1.getD i (Lay.mk (0:Int) (0:Int)))) (.leaf (.bool true false) ([])) (.leaf (.bool true true) ([]))))) (.leaf (.bool true true) ([])))))) (.leaf (.bool true true) ([]))))))))))))))))):=by kernel_rfl
theorem QgC:JA (mkF prog jm) (Qk f4) 8 QEu (λx_=>(hnd (mkF prog jm) 1)):=by
 refine⟨?_⟩;rintro⟨d,⟨w,⟨⟩⟩⟩ hp G h1 h2;exact Qv (KF QQF) 1 G _ h1
theorem QY3:JB (mkF prog jm) f4 8 QEu (λx_=>(hnd (mkF prog jm) 1)):=by
 refine⟨?_⟩;rintro⟨d,⟨w,⟨⟩⟩⟩ hp;refine⟨⟨rfl,by simp[QEu],rfl⟩,⟨?_⟩⟩
 rw[Qhz d w];simp only[QEu]at hp;refine QG ?_ ?_;rotate_left;refine QE ?_ ?_<;>intro b0
 .exact KE rfl rfl
 have hn:d.ps.n<=1000:=by
  have:¬ ((d.ps.n:Int)>14):=λh=>by rw[Zo,qde h]at b0;cases b0
  omega
 refine QE ?_ ?_<;>intro b1
 .exact KE rfl rfl
 have hw:vF w=true:=QXQ hp (λe=>by rw[e]at b1;cases b1)
 iterate 2 (refine QG ?_ ?_;rotate_left)
 refine QE (λb2=>?_) (λb2=>?_);have ho:d.ok=false:=by simpa using b2
 have ev:QX d=([],[],0,1):=by simp only[QX,ho,cond_false]
 refine QE (λb3=>?_) (λb3=>?_);refine QE (λb4=>?_) (λb4=>?_);refine QE (λb5=>?_) (λb5=>?_);refine QE ?_ ?_<;>intro b6
 .exact KE rfl rfl
 .rw[ev]at b6;exact absurd b6 (by decide)
 .rw[ev]at b5;exact absurd b5 (by decide)
 .rw[ev]at b4;exact absurd b4 (by decide)
 .rw[ev]at b3;exact absurd b3 (by decide)
 have ho:d.ok=true:=by simpa using b2
 have hd:=(ZA (Y4 ho)).1;have hd1:=hd.w1;have hd2:=hd.wn;have hL:=QCI d w d.ps.n;have hL1:(otL d w d.ps.n).length<=1000:=by omega
 iterate 2 (refine QG ?_ ?_;rotate_left)
 refine QE (λb7=>?_) (λb7=>?_);obtain⟨ev,er⟩:=QbN ho hL1 b7;refine QE (λb8=>?_) (λb8=>?_);refine QE (λb9=>?_) (λb9=>?_);refine QE (λb10=>?_) (λb10=>?_);refine QE (λb11=>?_) (λb11=>?_);refine QE ?_ ?_<;>intro b12
 .exact KE rfl rfl
 .have e:(!Jf d (rkL (otL d w d.ps.n)))=false:=b12;rw[er]at e;cases e
 .rw[ev]at b11;exact absurd b11 (by decide)
 .rw[ev]at b10;exact absurd b10 (by decide)
 .rw[ev]at b9;exact absurd b9 (by decide)
 .rw[ev]at b8;exact absurd b8 (by decide)
 obtain⟨⟨qx,qy⟩,q1,q3,q4,q5,q6⟩:=QZC ho hL1 b7;have kx:(QX d).1.length<=1000000/\(otL d w d.ps.n).length<=1000000/\(QX d).1.length<=1000:=by omega
 refine QE ?_ ?_<;>intro b13
 .have:=qdt b13;omega
 refine QE ?_ ?_<;>intro b14
 .have:=qdt b14;omega
 refine QG ?_ ?_;rotate_left;refine QE ?_ ?_<;>intro b15
 .have e:(!Jf d (rkL (QX d).1))=true:=b15;rw[q3]at e;cases e
 refine QE ?_ ?_<;>intro b16
 .have e:(((QX d).2.2.1==1) != (((QX d).2.1.length:Int)==0))=true:=b16;rw[q4]at e;cases e
 refine QE (λb17=>?_) (λb17=>?_);have qn:=qdt b17;have ky:=qy qn;have q:=q5 qn;refine QG ?_ ?_;rotate_left;refine QE ?_ ?_<;>intro b18
 .have e:(!Jf d (rkL (QX d).2.1))=true:=b18;rw[q.1]at e;cases e
 refine QG ?_ ?_;rotate_left;refine QE ?_ ?_<;>intro b19
 .have e:(!lsV (rwL (QX d).1) (rwL (QX d).2.1))=true:=b19;rw[q.2]at e;cases e
 refine QE (λb20=>?_) (λb20=>?_);have p:=q6 b20;refine QG ?_ ?_;rotate_left;refine QE ?_ ?_<;>intro b21
 .have e:lsV (rwL (otL d w d.ps.n)) (rwL (QX d).1)=true:=b21;rw[p.1]at e;cases e
 refine QG ?_ ?_;rotate_left;refine QE (λb22=>?_) (λb22=>?_);have p2:=p.2 b22;refine QE ?_ ?_<;>intro b23
 .have e:((QX d).2.2.1==1)=true:=b23;rw[p2.1]at e;cases e
 refine QG ?_ ?_;rotate_left;refine QE ?_ ?_<;>intro b24
 .have e:lsV (rwL (otL d w d.ps.n)) (rwL (QX d).2.1)=true:=b24;rw[p2.2]at e;cases e
 .exact KE rfl rfl
 .exact KE rfl rfl
 .exact KE rfl rfl
 refine QE (λb25=>?_) (λb25=>?_);have p:=q6 b25;refine QG ?_ ?_;rotate_left;refine QE ?_ ?_<;>intro b26
 .have e:lsV (rwL (otL d w d.ps.n)) (rwL (QX d).1)=true:=b26;rw[p.1]at e;cases e
 refine QG ?_ ?_;rotate_left;refine QE ?_ ?_<;>intro b27
 .have e:=(p.2 b27).1;have h1:(QX d).2.2.1=1:=by have:=qdf b17;omega
  rw[h1]at e;cases e
 .exact KE rfl rfl
 .exact KE rfl rfl
 all_goals first|rfl|(simp;done)|(rw[hw];simp;done)|(rw[hw];simp;omega)|(simp only[qlr,decide_true,Bool.and_true,Bool.true_and,qbA,qdE];omega)|(simp;omega)
