/- - -/
import Derived.Test.YtekbmehgcofnkaaGreatVzza
import Derived.Test.YtekbmehgcofnkaaGreatVzr
import Derived.Test.YtekbmehgcofnkaaGreatVzx
set_option linter.all false
noncomputable section
open Go.Proofs.Tryz
open Go.IntKind (i64)
set_option maxRecDepth 100000
namespace Go.Proofs.YtekbmehgcofnkaaGreat
open Go.SX Go.SX.Told
structure QU where
 n:Int
instance : QA QU where
  ks := [.int .u16]
  enc p _ := p.n
  dec f := ⟨f 0⟩
  ok _ := rfl
variable (d:Puz)(k:Int)(l:List Lay)(a b:Edge)(i:Nat)
def otS(w:Rw QU)(l:List Lay)(i:Nat):List (Nat×AV):=[(1,.slz 1 0 w.n (.of 0)),(2,.ptr 8 0 0),(5,.slz 96 0 l.length (.of 0)),(6,.slz 56 0 d.ps.n (.of 0)),(17,.int false .i64 d.ps.n),(18,.int false .i64 i)]
def otB(w:Rw QU)(l:List Lay)(u:Nat->Nat->Int):List (Nat×Blk):=[rwU 56 d u,(8,.cells 0 28 (KZ d)),rwY 96 l]++Qg.blk 0 d.ps++Qg.blk 1 w
def vg(w:Rw QU)(l:List Lay)(u:Nat->Nat->Int)(i:Nat):JSt:=⟨63,otS d w l i,otB d w l u,104⟩
def W6(w:Rw QU)(l:List Lay)(u:Nat->Nat->Int)(i:Nat)(v:Int)(k:Nat):JSt:=⟨63,otS d w l i++[(8,.int false .i64 v),(9,.int false .i64 k)],otB d w l u,104⟩
def otE:JSt:=⟨63,[(5,.slz 96 0 l.length (.of 0))],[rwY 96 l],104⟩
def QTB:Ex->List Nat
 | .normal=>[1,2,5,6,17,18]
 | .exit _=>[5]
 | .ret=>[]
def QTe:Ex->List Nat
 | .normal=>[1,2,5,6,17,18,8,9]
 | .exit _=>[1,2,5,6,17,18,8,9]
 | .ret=>[]
abbrev vU(i:Nat)(w:Rw QU):Nat×Blk:=(1,.frz [CK.int IntKind.u16] w.n λi=>QA.enc (w.get i))
abbrev vx:Nat×Blk:=(8,.cells 0 28 (waf d))
abbrev vN(i:Nat):Nat×Blk:=(0,.frz (wae) d.ps.n λi=>QA.enc (d.ps.get i))
abbrev QDb(i:Nat)(l:List Lay)(u:Nat->Nat->Int)(w:Rw QU):List (Nat×Blk):=[(vU i w),(vx d),(96,.rowz true 49 kB l.length λi=>QA.enc (l.getD i (Lay.mk (0:Int) (0:Int)))),(56,.rowz true 4 [CK.bool] d.ps.n u),(vN d i)]
abbrev wb5(d:Puz)(i:Nat)(l:List Lay)(w:Rw QU):List AV:=[.slz 1 0 w.n cO,.ptr 8 0 0,.slz 96 0 l.length cO,.slz 56 0 d.ps.n cO,vi (d.ps.n:Int),vi (i:Int)]
theorem Qam(w:Rw QU)(l:List Lay)(u:Nat->Nat->Int)(i:Nat)(v:Int)(k:Nat)(g:Nat->Value):exec (mkE prog VN) (hnd (mkE prog VN) 0) (QW (QI f26 0)) (JSt.inst (W6 d w l u i v k) g) (Q5 [] QTe) = .need (decide ((0:Int)<=(k:Int)/\(k:Int)<(d.ps.n:Int))&&decide (d.ps.n<=d.ps.n)) (.need (decide (k<d.ps.n)) (.br (decide (u ((k:Int).toNat+0) 0=1)) (.need (!decide ((d.ps.n:Int)=0)) (.leaf (.tup (.nilp::.ptr 63 0 0::List.append (wb5 d i l w) ([vi v,vi ((i64.wrap ((k:Int)+1)).tmod (d.ps.n:Int))]))) ((QDb d i l u w)))) (.leaf (.tup (.ptr 2 0 0::.ptr 63 0 0::List.append (wb5 d i l w) ([vi v,vi (k:Int)]))) ((QDb d i l u w))))):=by kernel_rfl
abbrev QTb(l:List Lay)(w:Rw QU):List Prop:=([0=0,w.n=w.n,cO=cO,0=0,0=0,0=0,l.length=l.length,cO=cO,0=0]++wbO d++[(i:Int)=(i:Int)])
abbrev QU3(i:Nat)(l:List Lay)(w:Rw QU):List Prop:=((([d.pK.aK=d.pK.aK]++waC d++[0=0,d.ps.n=d.ps.n,cO=cO])++wag l)++wad d++[w.n<=w.n,QB 1 w.n (λi=>QA.enc (w.get i)) λi=> QA.enc (w.get i)])
theorem Qhd(w:Rw QU)(l:List Lay)(u:Nat->Nat->Int)(i:Nat)(v:Int)(k k':Nat):QF 8 (List.append (wb5 d i l w) ([vi v,vi ((i64.wrap ((k:Int)+1)).tmod (d.ps.n:Int))])) ((QDb d i l u w)) (W6 d w l u i v k')=(some ((QTb d i l w)++[v=v,(i64.wrap ((k:Int)+1)).tmod (d.ps.n:Int)=(k':Int),d.ps.n<=d.ps.n,QB 1 d.ps.n u u,d.pK.length=d.pK.length]++(QU3 d i l w))):=by kernel_rfl
theorem QZg(w:Rw QU)(l:List Lay)(u:Nat->Nat->Int)(i:Nat)(v:Int)(k:Nat):QF 8 (List.append (wb5 d i l w) ([vi v,vi (k:Int)])) ((QDb d i l u w)) (W6 d w l u i v k)=(some ((QTb d i l w)++[v=v,(k:Int)=(k:Int),d.ps.n<=d.ps.n,QB 1 d.ps.n u u, d.pK.length=d.pK.length]++(QU3 d i l w))):=by kernel_rfl
abbrev otH(P:Program)(d:Puz)(w:Rw QU)(l:List Lay)(u:Nat->Nat->Int)(i:Nat)(v:Int)(k0 k:Nat):Hnd:={ hnd (mkE P VN) 0 with loop:=λ_=>Ks (i<d.ps.n) (KF 8 [] (W6 d w l u i v k0) [(True,.exit 2,W6 d w l u i v k)]) }
abbrev QV5(i:Nat)(k:Nat)(l:List Lay)(v:Int):Nat×Blk:=(280,.rowz true 49 kB (l.length+1) (KQ l.length (λi=>QA.enc (l.getD i (Lay.mk (0:Int) (0:Int)))) (KD [[vi (k:Int),.int false .i64 ((v.fdiv (256:Int)).tmod (4:Int))]] 0)))
abbrev Gk(i:Nat)(k:Nat)(u:Nat->Nat->Int):Nat×Blk:=(56,.rowz true 4 [CK.bool] d.ps.n λi=>bif decide (i=k)then Ki [.bool true true] 0 (u ((k:Int).toNat+0))else u i)
abbrev QG7(k:Nat):List AV:=[vi (k:Int),vj 0]
abbrev QSf(i:Nat)(k:Nat)(l:List Lay):Nat×Blk:=(240,.rowz true 49 kB (l.length+1) (KQ l.length (λi=>QA.enc (l.getD i (Lay.mk (0:Int) (0:Int)))) (KD [(QG7 k)] 0)))
abbrev QQ4(i:Nat)(k:Nat)(l:List Lay):Nat×Blk:=(224,.rowz true 49 kB (l.length+1) (KQ l.length (λi=>QA.enc (l.getD i (Lay.mk (0:Int) (0:Int)))) (KD [(QG7 k)] 0)))
abbrev wbQ(d:Puz)(i:Nat):List AV:=[.slz 56 0 d.ps.n cO,vi (d.ps.n:Int),vi (i64.wrap ((i:Int)+1))]
theorem QZN(w:Rw QU)(l:List Lay)(u:Nat->Nat->Int)(i:Nat)(v:Int)(k0 k:Nat)(g:Nat->Value):exec (mkE prog VN) (otH prog d w l u i v k0 k) (QI f26 0) (JSt.inst (vg d w l u i) g) (Q5 [] QTB) = .br (decide ((i:Int)<(d.ps.n:Int))) (.need (!decide ((w.n:Int)=0)) (.need (decide ((0:Int)<=(i:Int).tmod (w.n:Int)/\(i:Int).tmod (w.n:Int)<(w.n:Int))&&decide (w.n<=w.n)) (.need (decide (((i:Int).tmod (w.n:Int)).toNat<w.n)) (.need (!decide ((d.ps.n:Int)=0)) (.ak (([i<d.ps.n,0=0,w.n=w.n,cO=cO,0=0,0=0,0=0,l.length=l.length,cO=cO,0=0]++wbO d++[(i:Int)=(i:Int),i64.wrap (w.get ((i:Int).tmod (w.n:Int)).toNat).n=v,(i64.wrap (w.get ((i:Int).tmod (w.n:Int)).toNat).n).tmod (d.ps.n:Int)=(k0:Int),d.ps.n<=d.ps.n,QB 1 d.ps.n u u])++waa d++(([cO=cO]++wag l)++wad d++[w.n<=w.n,QB 1 w.n (λi=>QA.enc (w.get i)) λi=>QA.enc (w.get i)])) (.asm (True) (.all (λ(g0:Nat->Value)=>.need (decide ((0:Int)<=(k:Int)/\(k:Int)<(d.ps.n:Int))&&decide (d.ps.n<=d.ps.n)) (.need (decide (k<d.ps.n)) (.br (d.turn) (.br (decide ((k:Int)>0)) (.need (decide (l.length<=l.length)&&(true&&decide ((l.length+1+(l.length+1) / 4+192)*16<=281474976710656/\l.length+1<=9223372036854775807))) (.leaf (.tup (.nilp::.ptr 63 0 0::.slz 1 0 w.n cO::.ptr 8 0 0::.slz 280 0 (l.length+1) cO::wbQ d i)) ([(vU i w),(vx d),(QV5 i k l v),(Gk d i k u),(vN d i)]))) (.need (decide (l.length<=l.length)&&(true&&decide ((l.length+1+(l.length+1) / 4+192)*16<=281474976710656/\l.length+1<=9223372036854775807))) (.leaf (.tup (.nilp::.ptr 63 0 0::.slz 1 0 w.n cO::.ptr 8 0 0::.slz 240 0 (l.length+1) cO::wbQ d i)) ([(vU i w),(vx d),(QSf i k l),(Gk d i k u),(vN d i)])))) (.need (decide (l.length<=l.length)&&(true&&decide ((l.length+1+(l.length+1) / 4+192)*16<=281474976710656/\l.length+1<=9223372036854775807))) (.leaf (.tup (.nilp::.ptr 63 0 0::.slz 1 0 w.n cO::.ptr 8 0 0::.slz 224 0 (l.length+1) cO::wbQ d i)) ([(vU i w),(vx d),(QQ4 i k l), (Gk d i k u),(vN d i)]))))))))))))) (.leaf (.tup [.ptr 0 0 0,.ptr 63 0 0,.slz 96 0 l.length cO]) ([(96,.rowz true 49 kB l.length λi=>QA.enc (l.getD i (Lay.mk (0:Int) (0:Int))))])):=by kernel_rfl
theorem QgS(w:Rw QU)(l l':List Lay)(u u':Nat->Nat->Int)(i i':Nat)(v:Int)(k0 k:Nat):QF 8 (.slz 1 0 w.n cO::.ptr 8 0 0::.slz 280 0 (l.length+1) cO::wbQ d i) ([(vU i w),(vx d),(QV5 i k l v),(Gk d i k u),(vN d i)]) (vg d w l' u' i')=(some (([0=0,w.n=w.n,cO=cO,0=0,0=0,0=0,l.length+1=l'.length,cO=cO,0=0]++wbO d++[i64.wrap ((i:Int)+1)=(i':Int),d.ps.n<=d.ps.n,QB 1 d.ps.n (λi=>bif decide (i=k)then Ki [.bool true true] 0 (u ((k:Int).toNat+0))else u i) u'])++waa d++([cO=cO,l'.length<=l.length+1,QB 2 l'.length (KQ l.length (λi=>QA.enc (l.getD i (Lay.mk (0:Int) (0:Int)))) (KD [[vi (k:Int),vi ((v.fdiv (256:Int)).tmod (4:Int))]] 0)) λi=>QA.enc (l'.getD i (Lay.mk (0:Int) (0:Int)))]++wad d++[w.n<=w.n,QB 1 w.n (λi=>QA.enc (w.get i)) λi=>QA.enc (w.get i)]))):=by kernel_rfl
abbrev QR6(i:Nat)(i':Nat)(k:Nat)(l:List Lay)(l':List Lay)(u:Nat->Nat->Int)(u':Nat->Nat->Int)(w:Rw QU):List Prop:=(([0=0,w.n=w.n,cO=cO,0=0,0=0,0=0,l.length+1=l'.length,cO=cO,0=0]++wbO d++[i64.wrap ((i:Int)+1)=(i':Int),d.ps.n<=d.ps.n,QB 1 d.ps.n (λi=>bif decide (i=k)then Ki [.bool true true] 0 (u ((k:Int).toNat+0))else u i) u'])++waa d++([cO=cO,l'.length<=l.length+1,QB 2 l'.length (KQ l.length (λi=>QA.enc (l.getD i (Lay.mk (0:Int) (0:Int)))) (KD [(QG7 k)] 0)) λi=>QA.enc (l'.getD i (Lay.mk (0:Int) (0:Int)))]++wad d++[w.n<=w.n,QB 1 w.n (λi=>QA.enc (w.get i)) λi=>QA.enc (w.get i)]))
theorem QhF(w:Rw QU)(l l':List Lay)(u u':Nat->Nat->Int)(i i':Nat)(v:Int)(k0 k:Nat):QF 8 (.slz 1 0 w.n cO::.ptr 8 0 0::.slz 240 0 (l.length+1) cO::wbQ d i) ([(vU i w),(vx d),(QSf i k l),(Gk d i k u),(vN d i)]) (vg d w l' u' i')=(some (QR6 d i i' k l l' u u' w)):=by kernel_rfl
theorem Qdo(w:Rw QU)(l l':List Lay)(u u':Nat->Nat->Int)(i i':Nat)(v:Int)(k0 k:Nat):QF 8 (.slz 1 0 w.n cO::.ptr 8 0 0::.slz 224 0 (l.length+1) cO::wbQ d i) ([(vU i w),(vx d),(QQ4 i k l),(Gk d i k u),(vN d i)]) (vg d w l' u' i')=(some (QR6 d i i' k l l' u u' w)):=by kernel_rfl
theorem Qcu:QF 8 [AV.slz (96:Nat) (0:Nat) l.length cO] ([((96:Nat),Blk.rowz true (49:Nat) [CK.int i64,CK.int i64] l.length λi=>QA.enc (l.getD i (Lay.mk (0:Int) (0:Int))))]) (otE l)=( some ([0=0,l.length=l.length,cO=cO]++wbb l)):=by kernel_rfl
def Zs(u:Nat->Bool)(n:Nat):Nat->Nat->Nat
 | 0,k=>k
 | m+1,k=>cond (u k) (Zs u n m ((k+1) % n)) k
theorem QVF{u:Nat->Bool}{n:Nat}(hn:0<n):∀{m k:Nat},k<n->Zs u n m k<n
 | 0,k,h=>h
 | m+1,k,h=>by
  simp only[Zs];cases u k with
  | false=>exact h
  | true=>exact QVF hn (Nat.mod_lt _ hn)
theorem QQR{u:Nat->Bool}{n m k:Nat}(hk:k<n)(hu:u k=true)(h:∃ j,j<m/\u ((k+j) % n)=false):∃ m',m=m'+1/\∃ j,j<m'/\u (((k+1) % n+j) % n)=false:=by
 obtain⟨j,hj,h⟩:=h;cases j with
 | zero=>rw[Nat.add_zero,Nat.mod_eq_of_lt hk,hu]at h;cases h
 | succ j=>
  refine⟨m-1,by omega,j,by omega,?_⟩
  rw[Nat.mod_add_mod,show k+1+j=k+(j+1) by omega]
  exact h
theorem QPg{u:Nat->Bool}{n:Nat}:∀{m k:Nat},k<n->(∃ j,j<m/\u ((k+j) % n)=false)->u (Zs u n m k)=false
 | 0,k,_,h=>by obtain⟨j,hj,_⟩:=h;omega
 | m+1,k,hk,h=>by
  simp only[Zs];cases hu:u k with
  | false=>exact hu
  | true=>
   obtain⟨m',hm,h'⟩:=QQR hk hu h;obtain rfl:m=m':=by omega
   exact QPg (Nat.mod_lt _ (by omega)) h'
theorem QMf(a:Int):∀ n:Nat,((List.range n).filter λp:Nat=>a==(p:Int)).length<=1/\((n:Int)<=a->((List.range n).filter λp:Nat=>a==(p:Int)).length=0)
 | 0=>⟨Nat.zero_le _,λ_=>rfl⟩
 | n+1=>by
  obtain⟨h1,h2⟩:=QMf a n;rw[List.range_succ,List.filter_append,List.length_append]
  by_cases h:a=n
  .have:=h2 (by omega)
   have e:([n].filter λp:Nat=>a==(p:Int)).length<=1:=List.length_filter_le _ _;exact⟨by omega,λq=>by omega⟩
  .have e:([n].filter λp:Nat=>a==(p:Int))=[]:=by
    rw[List.filter_cons,if_neg (by simpa using h)];rfl
   rw[e];exact⟨h1,λq=>h2 (by omega)⟩
theorem QRa{α:Type}(a b:α->Bool):∀ L:List α,(L.filter λx=>a x||b x).length<=(L.filter a).length+(L.filter b).length
 | []=>qlr _
 | x::L=>by
  have:=QRa a b L;rw[List.filter_cons,List.filter_cons,List.filter_cons];cases a x<;>cases b x<;>simp<;>omega
theorem QMD(n:Nat):∀ l:List Lay,((List.range n).filter (Q6 l)).length<=l.length
 | []=>by
  have:(List.range n).filter (Q6 [])=[]:=by rw[List.filter_eq_nil_iff];intro p _ h;cases h
  rw[this];exact qlr _
 | x::l=>by
  have h1:=QMD n l;have h2:=(QMf x.piece n).1;have h3:=QRa (λp:Nat=>x.piece==(p:Int)) (Q6 l) (List.range n);have e:Q6 (x::l)=λp:Nat=>(x.piece==(p:Int))||Q6 l p:=rfl
  rw[e,List.length_cons];omega
theorem QQZ{l:List Lay}{n k:Nat}(h:l.length<n)(hk:k<n):∃ j,j<n/\Q6 l ((k+j) % n)=false:=by
 obtain⟨p,hp,hu⟩:∃ p,p<n/\Q6 l p=false:=by
  apply Classical.byContradiction;intro hno
  have e:(List.range n).filter (Q6 l)=List.range n:=by
   rw[List.filter_eq_self];intro p hp;cases hu:Q6 l p with
   | true=>rfl
   | false=>exact absurd ⟨p,List.mem_range.1 hp,hu⟩ hno
  have:=QMD n l;rw[e,List.length_range]at this;omega
 by_cases q:k<=p
 .exact⟨p-k,by omega,by rw[show k+(p-k)=p by omega,Nat.mod_eq_of_lt hp];exact hu⟩
 .exact⟨p+n-k,by omega,by rw[show k+(p+n-k)=p+n by omega,Nat.add_mod_right,Nat.mod_eq_of_lt hp];exact hu⟩
def wAt(w:Rw QU)(i:Nat):Int:=i64.wrap (w.get ((i:Int).tmod (w.n:Int)).toNat).n
def otK(w:Rw QU)(l:List Lay)(i:Nat):Nat:=Zs (Q6 l) d.ps.n d.ps.n ((wAt w i).tmod d.ps.n).toNat
def otX(w:Rw QU)(l:List Lay)(i:Nat):Lay:=⟨otK d w l i,cond d.turn (cond (decide ((otK d w l i:Int)>0)) (((wAt w i).fdiv 256).tmod 4) 0) 0⟩
def otL(d:Puz)(w:Rw QU):Nat->List Lay
 | 0=>[]
 | c+1=>otL d w c++[otX d w (otL d w c) c]
theorem XM(d:Puz)(w:Rw QU):∀ c,(otL d w c).length=c
 | 0=>rfl
 | c+1=>by rw[otL,List.length_append,XM d w c];rfl
structure ZB (w:Rw QU):Prop where
 n:0<w.n
 v:∀ i,i<w.n->0<=(w.get i).n/\(w.get i).n<=65535
theorem ZB.idx{w:Rw QU}(h:ZB w)(i:Nat):0<=(i:Int).tmod (w.n:Int)/\(i:Int).tmod (w.n:Int)<(w.n:Int):=by
 have:=h.n;exact⟨Int.tmod_nonneg _ (by omega),Int.tmod_lt_of_pos _ (by omega)⟩
theorem ZB.at_{w:Rw QU}(h:ZB w)(i:Nat):0<=wAt w i/\wAt w i<=65535:=by
 obtain⟨h1,h2⟩:=h.idx i;have:=h.v ((i:Int).tmod (w.n:Int)).toNat (by omega)
 unfold wAt;rw[w64 (by omega) (by omega)]
 exact this
theorem QIQ{d:Puz}{w:Rw QU}(hw:ZB w)(hn:0<d.ps.n)(l:List Lay)(i:Nat):(0<=(wAt w i).tmod d.ps.n/\(wAt w i).tmod d.ps.n<d.ps.n)/\otK d w l i<d.ps.n:=by
 have h:=hw.at_ i
 have h1:0<=(wAt w i).tmod d.ps.n:=Int.tmod_nonneg _ h.1;have h2:(wAt w i).tmod d.ps.n<d.ps.n:=Int.tmod_lt_of_pos _ (by omega)
 exact⟨⟨h1,h2⟩,QVF hn (by omega)⟩
theorem Qk4{d:Puz}(hn:d.ps.n<=1000)(w:Rw QU)(l:List Lay)(i:Nat)(v:Int):K6 (λs:Nat×Nat=>W6 d w l (QD l) i v s.2) (λs=>s.2<d.ps.n/\∃ j,j<s.1/\Q6 l ((s.2+j) % d.ps.n)=false) (λs=>s.1) (λs e J=>e = .exit 2/\J=W6 d w l (QD l) i v (Zs (Q6 l) d.ps.n s.1 s.2)) 8 QTe [] (λ_=>mkE prog VN) (λ_=>hnd (mkE prog VN) 0) (QW (QI f26 0)):=by
 refine⟨λs g hs=>?_⟩;obtain⟨m,k⟩:=s;obtain⟨hk,hj⟩:=hs;have hk:k<d.ps.n:=hk
 have hw:(i64.wrap ((k:Int)+1)).tmod d.ps.n=(((k+1) % d.ps.n:Nat):Int):=by
  rw[w64 (by omega) (by omega),Int.tmod_eq_emod_of_nonneg (by omega)]
  exact(Int.natCast_emod (k+1) d.ps.n).symm
 have et:=Qam d w l (QD l) i v k g;refine Qh et ?_;clear et
 iterate 2 (refine QG ?_ ?_;rotate_left)
 refine QE (λb0=>?_) (λb0=>?_);refine QG ?_ ?_;rotate_left
 .have hu:Q6 l k=true:=by
   have:=qdt b0;unfold QD at this;cases h:Q6 l k with
   | true=>rfl
   | false=>rw[show(k:Int).toNat+0=k from rfl,h]at this;cases this
  obtain⟨m',rfl,hj'⟩:=QQR hk hu hj;refine⟨(m',(k+1) % d.ps.n),⟨Nat.mod_lt _ (by omega),hj'⟩,Nat.lt_succ_self _,λe J hr=>?_,rfl,rfl,_,Qhd d w l (QD l) i v k ((k+1) % d.ps.n),?_⟩
  .simp only[Zs,hu,cond_true];exact hr
  repeat' first|with_reducible refine QM ?_ ?_|exact tv|with_reducible exact qRr|exact hw|exact rfl|refine aI ?_ ?_
 .have hu:Q6 l k=false:=by
   have:=qdf b0;unfold QD at this;cases h:Q6 l k with
   | false=>rfl
   | true=>rw[show(k:Int).toNat+0=k from rfl,h]at this;exact absurd rfl this
  have e:Zs (Q6 l) d.ps.n m k=k:=by
   cases m with
   | zero=>rfl
   | succ m=>simp only[Zs,hu,cond_false]
  refine⟨_,⟨rfl,congrArg (W6 d w l (QD l) i v) e.symm⟩,rfl,rfl,_,QZg d w l (QD l) i v k,?_⟩
  repeat' first|with_reducible refine QM ?_ ?_|exact tv|with_reducible exact qRr|exact rfl|refine aI ?_ ?_
 all_goals first|(simp;omega)
theorem Qee{d:Puz}{w:Rw QU}(hw:ZB w)(hn:d.ps.n<=1000)(c:Nat)(G:Ctx)(hrd:G.rd=none)(hG:G.n<=8):Q0 (mkE prog VN) G (otH prog d w (otL d w c) (QD (otL d w c)) c (wAt w c) ((wAt w c).tmod d.ps.n).toNat (otK d w (otL d w c) c)) (QI f26 0):=by
 refine KO (body:=QW (QI f26 0)) (QP He) hrd (by kernel_rfl) ?_
 refine JJ λhc=>?_;have hk:=QIQ hw (by omega) (d:=d) (otL d w c) c
 have hl:=XM d w c;refine JG (I:=λs:Nat×Nat=>W6 d w (otL d w c) (QD (otL d w c)) c (wAt w c) s.2) (n0:=8) (λ_=>rfl) (λ_=>QP He) hG (λj hj=>Qz (QP He) 0 G _ hrd) (λj hj=>(by decide:8<=104)) ?_ (Qk4 hn w (otL d w c) c (wAt w c)) (s0:=(d.ps.n,((wAt w c).tmod d.ps.n).toNat)) ⟨by show((wAt w c).tmod d.ps.n).toNat<d.ps.n;omega,QQZ (by omega) (by omega)⟩ ?_
 .rintro s e J ⟨_,rfl⟩;exact(by decide:8<=104)
 .rintro e J ⟨rfl,rfl⟩;exact⟨_,qmc,trivial,rfl,rfl⟩
theorem Qkm{d:Puz}{w:Rw QU}(hw:ZB w)(hn:d.ps.n<=1000):K6 (λc=>vg d w (otL d w c) (QD (otL d w c)) c) (λc=>c<=d.ps.n) (λc=>d.ps.n-c) (λ_ e J=>e = .exit 0/\J=otE (otL d w d.ps.n)) 8 QTB [] (λ_=>mkE prog VN) (λc=>otH prog d w (otL d w c) (QD (otL d w c)) c (wAt w c) ((wAt w c).tmod d.ps.n).toNat (otK d w (otL d w c) c)) (QI f26 0):=by
 refine⟨λc g hc=>?_⟩;have hc:c<=d.ps.n:=hc;have hl:=XM d w c;have hwn:=hw.n;have hix:=hw.idx c;have et:=QZN d w (otL d w c) (QD (otL d w c)) c (wAt w c) ((wAt w c).tmod d.ps.n).toNat (otK d w (otL d w c) c) g;refine Qh et ?_;clear et;refine QE (λb0=>?_) (λb0=>?_);have h:c<d.ps.n:=by have:=qdt b0;omega
 have hk:=QIQ hw (by omega) (d:=d) (otL d w c) c
 have hw1:i64.wrap ((c:Int)+1)=((c+1:Nat):Int):=Vo h hn;have hk0:(wAt w c).tmod d.ps.n=(((wAt w c).tmod d.ps.n).toNat:Int):=by omega
 have el:otL d w (c+1)=otL d w c++[otX d w (otL d w c) c]:=rfl;have es:(otL d w c++[otX d w (otL d w c) c]).length=(otL d w c).length+1:=List.length_append;have eu:=WP (otL d w c) d.ps.n (otK d w (otL d w c) c) (otX d w (otL d w c) c).turn;have ey:=Z8 (otL d w c) (otX d w (otL d w c) c)
 iterate 4 (refine QG ?_ ?_;rotate_left)
 iterate 35 refine Qt (by first|exact tv|exact h|exact hk0|with_reducible exact qRr|exact rfl) ?_
 refine Qk λa0=>?_;refine Ql λg0=>?_
 iterate 2 (refine QG ?_ ?_;rotate_left)
 refine QE (λb1=>?_) (λb1=>?_);refine QE (λb2=>?_) (λb2=>?_);refine QG ?_ ?_;rotate_left
 .have ex:otX d w (otL d w c) c=⟨otK d w (otL d w c) c,((wAt w c).fdiv 256).tmod 4⟩:=by unfold otX;rw[b1,b2];rfl
  refine⟨c+1,h,by show d.ps.n-(c+1)<d.ps.n-c;omega,λ_ _ r=>r,rfl,rfl,_,QgS d w (otL d w c) (otL d w (c+1)) (QD (otL d w c)) (QD (otL d w (c+1))) c (c+1) (wAt w c) ((wAt w c).tmod d.ps.n).toNat (otK d w (otL d w c) c),?_⟩
  rw[el];rw[ex]at es eu ey ⊢
  repeat' first|with_reducible refine QM ?_ ?_|exact tv|with_reducible exact qRr|exact hw1|exact es.symm|exact es|exact Nat.le_of_eq es|exact eu|exact ey|exact rfl|refine aI ?_ ?_
 refine QG ?_ ?_;rotate_left
 .have ex:otX d w (otL d w c) c=⟨otK d w (otL d w c) c,0⟩:=by unfold otX;rw[b1,b2];rfl
  refine⟨c+1,h,by show d.ps.n-(c+1)<d.ps.n-c;omega,λ_ _ r=>r,rfl,rfl,_,QhF d w (otL d w c) (otL d w (c+1)) (QD (otL d w c)) (QD (otL d w (c+1))) c (c+1) (wAt w c) ((wAt w c).tmod d.ps.n).toNat (otK d w (otL d w c) c),?_⟩
  rw[el];rw[ex]at es eu ey ⊢
  repeat' first|with_reducible refine QM ?_ ?_|exact tv|with_reducible exact qRr|exact hw1|exact es.symm|exact es|exact Nat.le_of_eq es|exact eu|exact ey|exact rfl|refine aI ?_ ?_
 refine QG ?_ ?_;rotate_left
 .have ex:otX d w (otL d w c) c=⟨otK d w (otL d w c) c,0⟩:=by unfold otX;rw[b1];rfl
  refine⟨c+1,h,by show d.ps.n-(c+1)<d.ps.n-c;omega,λ_ _ r=>r,rfl,rfl,_,Qdo d w (otL d w c) (otL d w (c+1)) (QD (otL d w c)) (QD (otL d w (c+1))) c (c+1) (wAt w c) ((wAt w c).tmod d.ps.n).toNat (otK d w (otL d w c) c),?_⟩
  rw[el];rw[ex]at es eu ey ⊢
  repeat' first|with_reducible refine QM ?_ ?_|exact tv|with_reducible exact qRr|exact hw1|exact es.symm|exact es|exact Nat.le_of_eq es|exact eu|exact ey|exact rfl|refine aI ?_ ?_
 obtain rfl:c=d.ps.n:=by have:=qdf b0;omega
 refine⟨_,⟨rfl,rfl⟩,rfl,rfl,_,Qcu (otL d w d.ps.n),?_⟩
 rotate_left
 all_goals first|((with_reducible show _=true);(first|rfl|(simp;omega)))|(repeat' first|with_reducible refine QM ?_ ?_|exact tv|with_reducible exact qRr|exact rfl|refine aI ?_ ?_)
def Wv(w:Rw QU):Bool:=decide (0<w.n)&&(List.range w.n).all λi=>decide (0<=(w.get i).n/\(w.get i).n<=65535)
theorem QLS{w:Rw QU}:Wv w=true↔ZB w:=by
 unfold Wv;rw[qbA,qdE,List.all_eq_true];constructor
 .rintro⟨h1,h3⟩;exact⟨h1,λi hi=>qdt (h3 i (List.mem_range.2 hi))⟩
 .intro h;exact⟨h.n,λi hi=>qde (h.v i (List.mem_range.1 hi))⟩
abbrev QEF(w:Rw QU)(l:List Lay):Code->St->(Ex->St->QC)->QC:=λ_=>KF 8 [] (vg d w [] (QD []) (0:Nat)) [(True,.exit 0,otE l)]
theorem QW4{d:Puz}{w:Rw QU}(hw:ZB w)(hn:d.ps.n<=1000)(G:Ctx)(hrd:G.rd=none)(hG:G.n=8):Q0 (mkE prog VN) G { hnd (mkE prog VN) 1 with loop:=QEF d w (otL d w d.ps.n) } (Qn f26):=by
 refine KO (body:=QI f26 0) (QP He) hrd (by kernel_rfl) ?_
 exact JG (E0:=mkE prog VN) (I:=λc=>vg d w (otL d w c) (QD (otL d w c)) c) (n0:=8) (ids':=[]) (X:=[(True,.exit 0,otE (otL d w d.ps.n))]) (λ_=>rfl) (λ_=>QP He) (by omega) (λc _=>Qee hw hn c G hrd (by omega)) (λj hj=>(by decide:8<=104)) (by rintro s e J ⟨_,rfl⟩;exact(by decide:8<=104)) (Qkm hw hn) (s0:=0) (Nat.zero_le _) (by
  rintro e J ⟨rfl,rfl⟩;exact⟨_,qmc,trivial,rfl,rfl⟩)
theorem Qef:QF 8 [.slz 96 0 l.length cO] [rwY 96 l] (Kk 8 (.slz 0 0 l.length cO) [rwY 0 l])=( some ([0=0,l.length=l.length,cO=cO]++wbb l)):=by kernel_rfl
def QBt:WF (Puz×(Rw QU)×Unit):=λ|(d,(w,_))=>(decide (d.ps.n<=1000)&&Wv w,.slz 0 0 (otL d w d.ps.n).length (.of 0),[rwY 0 (otL d w d.ps.n)])
def QQ5:FC:=wFC QBt
theorem QbR(w:(Rw QU)):Kg (mkE prog VN) { hnd (mkE prog VN) 1 with loop:=QEF d w (otL d w d.ps.n) } f26 (QZ.vals 0 ((d,w,()):Puz×(Rw QU)×Unit)) (QZ.blks 0 ((d, w,()):Puz×(Rw QU)×Unit)) 8 = .need (decide ((d.ps.n:Int)=(d.ps.n:Int))&&decide ((0:Int)<=(d.ps.n:Int)/\(d.ps.n:Int)<=17179869184)) (.ak (([0=0,w.n=w.n,cO=cO,0=0,0=0,0=0,0=0]++wbO d++[(0:Int)=0,d.ps.n<=d.ps.n,QB 1 d.ps.n (λx x_1=>(0:Int)) (QD [])])++waa d++([cO=cO,0=0]++wad d++[w.n<=w.n,QB 1 w.n (λi=>QA.enc (w.get i)) λi=>QA.enc (w.get i)])) (.asm (True) (.all (λ(g0:Nat->Value)=>.leaf (.slz 96 0 (otL d w d.ps.n).length cO) ([(96,.rowz true 49 kB (otL d w d.ps.n).length λi=>QA.enc ((otL d w d.ps.n).getD i (Lay.mk (0:Int) (0:Int))))]))))):=by kernel_rfl
theorem Qgs:JL (mkE prog VN) (Qn f26) 8 QBt (λx_=>{ hnd (mkE prog VN) 1 with loop:=QEF x_.1 x_.2.1 (otL x_.1 x_.2.1 x_.1.ps.n) }):=by
 refine⟨?_⟩;rintro⟨d,⟨w,⟨⟩⟩⟩ hp G h1 h2;exact QW4 (QLS.1 (qbA _ _ ▸ hp).2) (qdt (qbA _ _ ▸ hp).1) G h1 h2
theorem QfK:JH (mkE prog VN) f26 8 QBt (λx_=>{ hnd (mkE prog VN) 1 with loop:=QEF x_.1 x_.2.1 (otL x_.1 x_.2.1 x_.1.ps.n) }):=by
 refine⟨?_⟩;rintro⟨d,⟨w,⟨⟩⟩⟩ hp;refine⟨⟨rfl,by simp[QBt,rwY,Blk.own,Blk.all],rfl⟩,⟨?_⟩⟩
 rw[QbR d w];simp only[QBt]at hp;have hz:∀ k,QB 1 k (λ_ _=>0) (QD []):=λk i _=>⟨rfl,trivial⟩;have hn:d.ps.n<=1000:=qdt (qbA _ _ ▸ hp).1;refine QG ?_ ?_;rotate_left
 iterate 29 refine Qt (by first|exact tv|with_reducible exact qRr|exact hz _|exact rfl) ?_
 refine Qk λa0=>?_;refine Ql λg0=>?_;refine⟨rfl,rfl,_,Qef _,?_⟩
 rotate_left
 all_goals first|((with_reducible show _=true);(first|rfl|(simp;omega)))|(repeat' first|with_reducible refine QM ?_ ?_|exact tv|with_reducible exact qRr|exact rfl|refine aI ?_ ?_)
theorem QkP:QS prog 26 QQ5:=
 JY (QP He) func26 (by kernel_rfl) (by kernel_rfl) (by decide) Qgs QfK
def Qd:Edge×Edge×Bool:=cond (a.kind==1) (cond (b.kind==2) (a,b,true) (a,b,false)) (cond (b.kind==1) (cond (a.kind==2) (b,a,true) (a,b,false)) (a,b,false))
def jw:WF (Edge×Edge×Unit):=λ|(a,(b,_))=>(true,.tup [Enc.enc (Qd a b).1,Enc.enc (Qd a b).2.1,.bool false (Qd a b).2.2],[])
def QMH:FC:=wFC jw
abbrev QFg:List AV:=[vi a.kind,vi a.at_.lo,vi a.at_.hi,vi a.wide.lo,vi a.wide.hi,vi a.deep.lo,.int false .i64 a.deep.hi]
abbrev QGG:List AV:=[vi b.kind,vi b.at_.lo,vi b.at_.hi,vi b.wide.lo,vi b.wide.hi,vi b.deep.lo,.int false .i64 b.deep.hi]
abbrev QGM:List AV:=[.agg (QFg a),.agg (QGG b),.bool true false]
theorem Qfu :Kg (mkF prog qz) (hnd (mkF prog qz) 0) f32 (QZ.vals 0 ((a,b,()):Edge×Edge×Unit)) (QZ.blks 0 ((a,b,()):Edge×Edge×Unit)) 8 = .br (a.kind==1) (.br (b.kind==2) (.leaf (.tup [.agg (QFg a),.agg (QGG b),.bool true true]) ([])) (.br (b.kind==1) (.br (a.kind==2) (.leaf (.tup [.agg (QGG b),.agg (QFg a),.bool true true]) ([])) (.leaf (.tup (QGM a b)) ([]))) (.leaf (.tup (QGM a b)) ([])))) (.br (b.kind==1) (.br (a.kind==2) (.leaf (.tup [.agg (QGG b),.agg (QFg a),.bool true true]) ([])) (.leaf (.tup (QGM a b)) ([]))) (.leaf (.tup (QGM a b)) ([]))):=by kernel_rfl
theorem QlE:JL (mkF prog qz) (Qn f32) 8 jw (λx_=>(hnd (mkF prog qz) 0)):=by
 refine⟨?_⟩;rintro⟨a,⟨b,⟨⟩⟩⟩ hp G h1 h2;exact Qz (KS QKm) 0 G _ h1
theorem Qjx:JH (mkF prog qz) f32 8 jw (λx_=>(hnd (mkF prog qz) 0)):=by
 refine⟨?_⟩;rintro⟨a,⟨b,⟨⟩⟩⟩ hp;refine⟨⟨rfl,by simp[jw],rfl⟩,⟨?_⟩⟩
 rw[Qfu a b];simp only[jw]at hp
 have fin:∀(t h:Edge) (z q:Bool),Qd a b=(t,h,q)->(QC.leaf (.tup [Enc.enc t,Enc.enc h,.bool z q]) []).den (ZY 8 (jw (a,b,())).2.1 (jw (a,b,())).2.2):=λt h z q e=>KN (u := .tup [Enc.enc t,Enc.enc h,.bool z q]) (by
  show AV.same _ (.tup [Enc.enc (Qd a b).1,Enc.enc (Qd a b).2.1,.bool false (Qd a b).2.2]);rw[e];simp only[Enc.enc,AV.same,AV.sameL,and_self]) rfl
 refine QE (λb0=>?_) (λb0=>?_);refine QE ?_ ?_<;>intro b1
 .exact fin a b true true (by unfold Qd;rw[b0,b1];rfl)
 refine QE (λb2=>?_) (λb2=>?_);refine QE ?_ ?_<;>intro b3
 .rw[beq_iff_eq]at b0 b3;omega
 .exact fin a b true false (by unfold Qd;rw[b0,b1];rfl)
 .exact fin a b true false (by unfold Qd;rw[b0,b1];rfl)
 refine QE (λb4=>?_) (λb4=>?_);refine QE ?_ ?_<;>intro b5
 .exact fin b a true true (by unfold Qd;rw[b0,b4,b5];rfl)
 .exact fin a b true false (by unfold Qd;rw[b0,b4,b5];rfl)
 .exact fin a b true false (by unfold Qd;rw[b0,b4];rfl)
theorem QjI:QS prog 32 QMH:=
 JY (KS QKm) func32 (by kernel_rfl) (by kernel_rfl) (by decide) QlE Qjx
def QAU:Tab:=Qc qz 32 QMH
theorem QDe:Qf QAU:=QKm.add QjI
def pkV(w:Rw QU)(k:Int)(s:Sp):Int:=i64.wrap (s.lo+(i64.wrap (IntKind.u16.wrap ((w.get ((i64.wrap (k+1)).tmod (w.n:Int)).toNat).n+IntKind.u16.wrap (i64.wrap (k+1))))).tmod (i64.wrap (i64.wrap (s.hi-s.lo)+1)))
def pkW(w:Rw QU)(k:Int):List (Nat×Blk):=[(344,.cells 0 3 [vi k]),(16,.cells 0 41 [.slz 1 0 w.n (.of 0)])]
def pkU(w:Rw QU)(k:Int)(s:Sp):UC:=⟨352,⟨3,[(0,.agg [.int false .i64 s.lo,.int false .i64 s.hi]),(1,.ptr 344 0 0),(2,.ptr 16 0 0)],pkW w k++Qg.blk 1 w,400⟩,λ_=>.int false .i64 (pkV w k s),λ_=>pkW w (i64.wrap (k+1))⟩
theorem QfN(w:Rw QU)(k:Int)(s:Sp):VK (mkE prog QAU) (hnd (mkE prog QAU) 1) f30 (pkU w k s)=QC.need (!decide ((↑w.n:Int)=(0:Int))) (QC.need (decide ((0:Int)<=(i64.wrap (k+(1:Int))).tmod (↑w.n:Int)/\(i64.wrap (k+(1:Int))).tmod (↑w.n:Int)<(↑w.n:Int))&&decide (w.n<=w.n)) (QC.need (decide (((i64.wrap (k+(1:Int))).tmod (↑w.n:Int)).toNat<w.n)) (QC.need (!decide (i64.wrap (i64.wrap (s.hi-s.lo)+(1:Int))=(0:Int))) (QC.leaf (vi (i64.wrap (s.lo+(i64.wrap (IntKind.u16.wrap ((w.get ((i64.wrap (k+(1:Int))).tmod (↑w.n:Int)).toNat).n+IntKind.u16.wrap (i64.wrap (k+(1:Int)))))).tmod (i64.wrap (i64.wrap (s.hi-s.lo)+(1:Int)))))) ([((344:Nat),Blk.cells (0:Nat) (3:Nat) [vi (i64.wrap (k+(1:Int)))]),((16:Nat),Blk.cells (0:Nat) (41:Nat) [AV.slz (1:Nat) (0:Nat) w.n cO]),((1:Nat),Blk.frz [CK.int IntKind.u16] w.n λi=>QA.enc (w.get i))]))))):=by kernel_rfl
theorem QZW(w:Rw QU)(k:Int)(s:Sp):QF 400 [(vi (i64.wrap (s.lo+(i64.wrap (IntKind.u16.wrap ((w.get ((i64.wrap (k+(1:Int))).tmod (↑w.n:Int)).toNat).n+IntKind.u16.wrap (i64.wrap (k+(1:Int)))))).tmod (i64.wrap (i64.wrap (s.hi-s.lo)+(1:Int))))))] ([((344:Nat),Blk.cells (0:Nat) (3:Nat) [vi (i64.wrap (k+(1:Int)))]),((16:Nat),Blk.cells (0:Nat) (41:Nat) [AV.slz (1:Nat) (0:Nat) w.n cO]),((1:Nat),Blk.frz [CK.int IntKind.u16] w.n λi=>QA.enc (w.get i))]) (KX (pkU w k s))=( some [i64.wrap (s.lo+(i64.wrap (IntKind.u16.wrap ((w.get ((i64.wrap (k+(1:Int))).tmod (↑w.n:Int)).toNat).n+IntKind.u16.wrap (i64.wrap (k+(1:Int)))))).tmod (i64.wrap (i64.wrap (s.hi-s.lo)+(1:Int))))=pkV w k s,i64.wrap (k+(1:Int))=i64.wrap (k+(1:Int)),0=0,w.n=w.n,cO=cO]):=by kernel_rfl
theorem QX6(w:Rw QU)(k:Int)(s:Sp)(hw:1<=w.n)(hk:0<=k/\k<=100000)(hs:i64.wrap (i64.wrap (s.hi-s.lo)+1)≠0):QS prog 30 (uFC (pkU w k s)):=by
 refine K0 (E:=mkE prog QAU) (QP QDe) func30 (c:=Qn f30) (by kernel_rfl) (by kernel_rfl) ?_ (λG hG _=>Qz (QP QDe) 1 G _ hG) ⟨?_⟩
 .refine⟨(by decide:352<=400),rfl,rfl,?_,rfl,λ_ _=>rfl,λ_ _=>rfl⟩
  intro q hq;simp only[UC.po,pkU,pkW,List.mem_cons,List.not_mem_nil,or_false]at hq;rcases hq with rfl|rfl<;>exact⟨rfl,rfl,rfl,λ_=>rfl⟩
 refine Qh (QfN w k s) ?_;have e1:i64.wrap (k+1)=k+1:=w64 (by omega) (by omega)
 have h0:0<=(k+1).tmod (w.n:Int):=Int.tmod_nonneg _ (by omega)
 have h1:(k+1).tmod (w.n:Int)<(w.n:Int):=Int.tmod_lt_of_pos _ (by omega)
 refine QG (by rw[Bool.not_eq_true',decide_eq_false_iff_not];omega) (QG (by rw[e1,qbA,qdE,qdE];omega) (QG (by rw[e1,qdE];omega) (QG (by rw[Bool.not_eq_true',decide_eq_false_iff_not];exact hs) ?_)))
 refine⟨rfl,rfl,_,QZW w k s,?_⟩
 repeat' first|with_reducible refine QM ?_ ?_|exact tv|exact qRr|exact rfl|refine aI ?_ ?_
def pkC(pb:List Prop->Bool)(w:Rw QU):FC:=λargs nid _=>([344,16,1],λblks=>match args,blks with
 | [.agg [.int _ .i64 a,.int _ .i64 b],.ptr 344 0 0,.ptr 16 0 0],[.cells 0 3 [.int _ .i64 k],.cells 0 41 [.slz 1 0 n (.of 0)],.frz [.int .u16] n' g]=>match Nat.ble 352 nid with
  | true=>some ⟨false,decide (1<=w.n/\0<=k/\k<=100000/\i64.wrap (i64.wrap (b-a)+1)≠0)&&pb [n=w.n,n'=w.n,QB 1 w.n g λi=>QA.enc (w.get i)],.int false .i64 (pkV w k ⟨a,b⟩),[(344,.cells 0 3 [.int false .i64 (i64.wrap (k+1))]),(16,.cells 0 41 [.slz 1 0 n (.of 0)])]⟩
  | false=>none
 | _,_=>none)
theorem QYo(w:Rw QU)(k a b:Int)(c c' e:Bool)(g:Nat->Nat->Int):QF 352 [.agg [.int c .i64 a,.int c' .i64 b],.ptr 344 0 0,.ptr 16 0 0] [(344,.cells 0 3 [.int e .i64 k]),(16,.cells 0 41 [.slz 1 0 w.n cO]),(1,.frz [.int .u16] w.n g)] (pkU w k ⟨a,b⟩).pre=( some [a=a,b=b,0=0,0=0,0=0,0=0,k=k,0=0,w.n=w.n,cO=cO,w.n<=w.n,QB (1:Nat) w.n g λi=>QA.enc (w.get i)]):=by kernel_rfl
theorem QOg{pb:List Prop->Bool}{U:UC}{args:List AV}{nid:Nat}{h gn:List (Nat×Blk)}{ps:List Prop}(hs:QF U.N args h U.pre=some ps)(h1:Nat.beq args.length U.pre.len=true)(h2:Nat.ble U.N nid=true)(h3:QQM U.N U.po h=true):jz pb U args nid h gn=some ⟨false,pb ps,U.val nid,gn++U.post nid⟩:=by
 unfold jz;rw[hs,h1,h2,h3];rfl
theorem QhO(w:Rw QU)(k a b:Int)(c c' e:Bool)(g:Nat->Nat->Int)(nid:Nat)(hb:Nat.ble 352 nid=true)(hg:QB 1 w.n g λi=>QA.enc (w.get i)):∃ ps,Ka ps/\(uFC (pkU w k ⟨a,b⟩) [.agg [.int c .i64 a,.int c' .i64 b],.ptr 344 0 0,.ptr 16 0 0] nid [344,16,1]).2 [.cells 0 3 [.int e .i64 k],.cells 0 41 [.slz 1 0 w.n (.of 0)],.frz [.int .u16] w.n g]=some ⟨false,QK ps,.int false .i64 (pkV w k ⟨a,b⟩),[(344,.cells 0 3 [.int false .i64 (i64.wrap (k+1))]),(16,.cells 0 41 [.slz 1 0 w.n (.of 0)])]⟩:=by
 obtain⟨ps,hs,hps⟩:∃ ps,QF 352 [.agg [.int c .i64 a,.int c' .i64 b],.ptr 344 0 0,.ptr 16 0 0] [(344,.cells 0 3 [.int e .i64 k]),(16,.cells 0 41 [.slz 1 0 w.n (.of 0)]),(1,.frz [.int .u16] w.n g)] (pkU w k ⟨a,b⟩).pre=some ps/\Ka ps:=by
  refine⟨_,QYo w k a b c c' e g,?_⟩
  repeat' first|with_reducible refine QM ?_ ?_|exact tv|exact hg|refine aI ?_ ?_
 have:=QOg (pb:=QK) (U:=pkU w k ⟨a,b⟩) (nid:=nid) (gn:=[]) hs rfl hb (by kernel_rfl)
 refine⟨ps,hps,?_⟩;simp only[uFC,KT,QAq,QCK,WO (qG 6)];exact(Eq.trans (b:=jz QK (pkU w k ⟨a,b⟩) [.agg [.int c .i64 a,.int c' .i64 b],.ptr 344 0 0,.ptr 16 0 0] nid [(344,.cells 0 3 [.int e .i64 k]),(16,.cells 0 41 [.slz 1 0 w.n (.of 0)]),(1,.frz [.int .u16] w.n g)] []) (by kernel_rfl) (this.trans (by kernel_rfl)))
theorem QL8(w:Rw QU):QS prog 30 (pkC QK w):=by
 refine⟨by kernel_rfl,λargs nid all r w' lk blks eff hH ha hv he hp=>?_⟩
 simp only[pkC]at he;split at he<;>(try (cases he;done))
 split at he<;>(try (cases he;done))
 rename_i hb;simp only[qsI]at he;subst he;simp only[qbA,qdE]at hp;obtain⟨⟨h1,h2,h3,h4⟩,hp⟩:=hp;obtain⟨rfl,rfl,hr,_⟩:=KG.1 hp;obtain⟨ps,hps,he⟩:=QhO w _ _ _ _ _ _ _ nid hb hr;have:=(QX6 w _ ⟨_,_⟩ h1 ⟨h2,h3⟩ h4).2 _ nid [344,16,1] r w' lk _ ⟨false,QK ps,_,_⟩ hH ha hv he (KG.2 hps);exact this
def trB(w:Rw QU)(d:Puz)(D k:Int):List (Nat×Blk):=pkW w k++[(368,.cellsR 0 53 [.fn (.func 30) [.ptr 344 0 0,.ptr 16 0 0]]),(8,.cellsR 0 28 (KZ d)),(640,.cellsR 0 3 [vi D])]++Qg.blk 1 w
def trU(w:Rw QU)(d:Puz)(D k:Int)(a b:Edge)(v:Bool)(k':Int):UC:=⟨648,⟨5,[(0,Enc.enc a),(1,Enc.enc b),(2,.ptr 368 0 0),(3,.ptr 8 0 0),(4,.ptr 640 0 0)],trB w d D k,704⟩,λ_=>.bool false v,λ_=>pkW w k'⟩
def QGj(pb:List Prop->Bool)(w:Rw QU):Tab:=Qc QAU 30 (pkC pb w)
abbrev QAM(w:Rw QU):List Prop:=[w.n=w.n,w.n=w.n,QB 1 w.n (λi=>QA.enc (w.get i)) λi=>QA.enc (w.get i)]
abbrev zb(w:Rw QU):List (Nat×Blk):=[(344,.cells 0 3 [vi (i64.wrap (i64.wrap (i64.wrap (i64.wrap (i64.wrap (i64.wrap (k+1)+1)+1)+1)+1)+1))]),(16,.cells 0 41 [.slz 1 0 w.n cO]),(1,.frz [CK.int IntKind.u16] w.n λi=>QA.enc (w.get i))]
theorem Qgt(pb:List Prop->Bool)(w:Rw QU)(d:Puz)(D k:Int)(a b:Edge)(v:Bool)(k':Int):VK (mkF prog (QGj pb w)) (hnd (mkF prog (QGj pb w)) 1) f31 (trU w d D k a b v k') = .need (true) (.br (!(Qd a b).2.2) (.leaf (.bool true false) ([(344, .cells 0 3 [vi k]),(16,.cells 0 41 [.slz 1 0 w.n cO]),(1,.frz [CK.int IntKind.u16] w.n λi=>QA.enc (w.get i))])) (.need (decide (1<=w.n/\(0:Int)<=k/\k<=100000/\i64.wrap (i64.wrap ((Qd a b).1.at_.hi-(Qd a b).1.at_.lo)+1)≠(0:Int))&&pb (QAM w)) (.need (decide (1<=w.n/\(0:Int)<=i64.wrap (k+1)/\i64.wrap (k+1)<=100000/\i64.wrap (i64.wrap ((Qd a b).2.1.at_.hi-(Qd a b).2.1.at_.lo)+1)≠(0:Int))&&pb (QAM w)) (.need (decide (1<=w.n/\(0:Int)<=i64.wrap (i64.wrap (k+1)+1)/\i64.wrap (i64.wrap (k+1)+1)<=100000/\i64.wrap (i64.wrap ((Qd a b).2.1.wide.hi-(Qd a b).2.1.wide.lo)+1)≠(0:Int))&&pb (QAM w)) (.need (decide (1<=w.n/\(0:Int)<=i64.wrap (i64.wrap (i64.wrap (k+1)+1)+1)/\i64.wrap (i64.wrap (i64.wrap (k+1)+1)+1)<=100000/\i64.wrap (i64.wrap ((Qd a b).1.wide.hi-(Qd a b).1.wide.lo)+1)≠(0:Int))&&pb (QAM w)) (.need (decide (1<=w.n/\(0:Int)<=i64.wrap (i64.wrap (i64.wrap (i64.wrap (k+1)+1)+1)+1)/\i64.wrap (i64.wrap (i64.wrap (i64.wrap (k+1)+1)+1)+1)<=100000/\i64.wrap (i64.wrap ((Qd a b).2.1.deep.hi-(Qd a b).2.1.deep.lo)+1)≠(0:Int))&&pb (QAM w)) (.need (decide (1<=w.n/\(0:Int)<=i64.wrap (i64.wrap (i64.wrap (i64.wrap (i64.wrap (k+1)+1)+1)+1)+1)/\i64.wrap (i64.wrap (i64.wrap (i64.wrap (i64.wrap (k+1)+1)+1)+1)+1)<=100000/\i64.wrap (i64.wrap ((Qd a b).1.deep.hi-(Qd a b).1.deep.lo)+1)≠(0:Int))&&pb (QAM w)) (.br (decide (i64.wrap (i64.wrap (i64.wrap (pkV w k (Qd a b).1.at_+pkV w (i64.wrap (k+1)) (Qd a b).2.1.at_)-d.pK.length)*D)<=i64.wrap ((1000:Int)*d.pK.aK))) (.br (decide (i64.wrap (i64.wrap (i64.wrap (pkV w k (Qd a b).1.at_+pkV w (i64.wrap (k+1)) (Qd a b).2.1.at_)-d.pK.length)*D) ≥ i64.wrap ((-1000:Int)*d.pK.aK))) (.br (decide (i64.wrap (pkV w (i64.wrap (i64.wrap (k+1)+1)) (Qd a b).2.1.wide-pkV w (i64.wrap (i64.wrap (i64.wrap (k+1)+1)+1)) (Qd a b).1.wide)≥0)) (.br (decide (i64.wrap (i64.wrap (pkV w (i64.wrap (i64.wrap (k+1)+1)) (Qd a b).2.1.wide-pkV w (i64.wrap (i64.wrap (i64.wrap (k+1)+1)+1)) (Qd a b).1.wide)*D)<=i64.wrap ((1000:Int)*d.pK.oK))) (.br (decide (i64.wrap (pkV w (i64.wrap (i64.wrap (i64.wrap (i64.wrap (k+1)+1)+1)+1)) (Qd a b).2.1.deep-pkV w (i64.wrap (i64.wrap (i64.wrap (i64.wrap (i64.wrap (k+1)+1)+1)+1)+1)) (Qd a b).1.deep)≥0)) (.leaf (.bool false (decide (i64.wrap (i64.wrap (pkV w (i64.wrap (i64.wrap (i64.wrap (i64.wrap (k+1)+1)+1)+1)) (Qd a b).2.1.deep-pkV w (i64.wrap (i64.wrap (i64.wrap (i64.wrap (i64.wrap (k+1)+1)+1)+1)+1)) (Qd a b).1.deep)*D)<=i64.wrap ((1000:Int)*d.pK.oK)))) ((zb k w))) (.leaf (.bool true false) ((zb k w)))) (.leaf (.bool true false) ((zb k w)))) (.leaf (.bool true false) ((zb k w)))) (.leaf (.bool true false) ((zb k w)))) (.leaf (.bool true false) ((zb k w))))))))))):=by kernel_rfl
theorem QWe(w:Rw QU)(d:Puz)(D k:Int)(a b:Edge)(v:Bool)(k':Int):QF 704 [(AV.bool true false)] ([((344:Nat),Blk.cells (0:Nat) (3:Nat) [vi k]),((16:Nat),Blk.cells (0:Nat) (41:Nat) [AV.slz (1:Nat) (0:Nat) w.n cO]),((1:Nat),Blk.frz [CK.int IntKind.u16] w.n λi=>QA.enc (w.get i))]) (KX (trU w d D k a b v k'))=( some [false=v,k=k',0=0,w.n=w.n,cO=cO]):=by kernel_rfl
theorem Qkd(w:Rw QU)(d:Puz)(D k:Int)(a b:Edge)(v:Bool)(k':Int):QF 704 [(.bool false (decide (i64.wrap (i64.wrap (pkV w (i64.wrap (i64.wrap (i64.wrap (i64.wrap (k+1)+1)+1)+1)) (Qd a b).2.1.deep-pkV w (i64.wrap (i64.wrap (i64.wrap (i64.wrap (i64.wrap (k+1)+1)+1)+1)+1)) (Qd a b).1.deep)*D)<=i64.wrap ((1000:Int)*d.pK.oK))))] ((zb k w)) (KX (trU w d D k a b v k'))=(some [decide (i64.wrap (i64.wrap (pkV w (i64.wrap (i64.wrap (i64.wrap (i64.wrap (k+1)+1)+1)+1)) (Qd a b).2.1.deep-pkV w (i64.wrap (i64.wrap (i64.wrap (i64.wrap (i64.wrap (k+1)+1)+1)+1)+1)) (Qd a b).1.deep)*D)<=i64.wrap ((1000:Int)*d.pK.oK))=v,i64.wrap (i64.wrap (i64.wrap (i64.wrap (i64.wrap (i64.wrap (k+1)+1)+1)+1)+1)+1)=k',0=0,w.n=w.n,cO=cO]):=by kernel_rfl
theorem QBF(w:Rw QU)(d:Puz)(D k:Int)(a b:Edge)(v:Bool)(k':Int):QF 704 [(AV.bool true false)] ([((344:Nat),Blk.cells (0:Nat) (3:Nat) [vi (i64.wrap (i64.wrap (i64.wrap (i64.wrap (i64.wrap (i64.wrap (k+(1:Int))+(1:Int))+(1:Int))+(1:Int))+(1:Int))+(1:Int)))]),((16:Nat),Blk.cells (0:Nat) (41:Nat) [AV.slz (1:Nat) (0:Nat) w.n cO]),((1:Nat),Blk.frz [CK.int IntKind.u16] w.n λi=>QA.enc (w.get i))]) (KX (trU w d D k a b v k'))=( some [false=v,i64.wrap (i64.wrap (i64.wrap (i64.wrap (i64.wrap (i64.wrap (k+(1:Int))+(1:Int))+(1:Int))+(1:Int))+(1:Int))+(1:Int))=k',0=0,w.n=w.n,cO=cO]):=by kernel_rfl
def nk(k:Int):Nat->Int
 | 0=>k
 | i+1=>i64.wrap (nk k i+1)
def XA(w:Rw QU)(y:Qx)(k:Int)(t h:Edge):Int:=i64.wrap (i64.wrap (pkV w (nk k 0) t.at_+pkV w (nk k 1) h.at_)-y.length)
def YR(w:Rw QU)(k:Int)(t h:Edge):Int:=i64.wrap (pkV w (nk k 2) h.wide-pkV w (nk k 3) t.wide)
def qA(w:Rw QU)(k:Int)(t h:Edge):Int:=i64.wrap (pkV w (nk k 4) h.deep-pkV w (nk k 5) t.deep)
def Zv(y:Qx)(D o wd dp:Int):Bool:=cond (decide (i64.wrap (o*D)<=i64.wrap (1000*y.aK))) (cond (decide (i64.wrap (o*D)≥i64.wrap (-1000*y.aK))) (cond (decide (wd≥0)) (cond (decide (i64.wrap (wd*D)<=i64.wrap (1000*y.oK))) (cond (decide (dp≥0)) (decide (i64.wrap (dp*D)<=i64.wrap (1000*y.oK))) false) false) false) false) false
def trV(w:Rw QU)(y:Qx)(D k:Int)(a b:Edge):Bool:=cond (Qd a b).2.2 (Zv y D (XA w y k (Qd a b).1 (Qd a b).2.1) (YR w k (Qd a b).1 (Qd a b).2.1) (qA w k (Qd a b).1 (Qd a b).2.1)) false
def trK:Int:=cond (Qd a b).2.2 (nk k 6) k
def H4(s:Sp):Bool:=decide (i64.wrap (i64.wrap (s.hi-s.lo)+1)≠0)
def Y3(e:Edge):Bool:=H4 e.at_&&(H4 e.wide&&H4 e.deep)
def Zz(x:Int×Edge×Edge):Bool:=decide (0<=x.1/\x.1<=90000)&&(!(Qd x.2.1 x.2.2).2.2||(Y3 x.2.1&&Y3 x.2.2))
theorem QZo:(Qd a b).1=a/\(Qd a b).2.1=b∨(Qd a b).1=b/\(Qd a b).2.1=a:=by
 unfold Qd;cases a.kind==1<;>cases b.kind==2<;>cases b.kind==1<;>cases a.kind==2<;>first|exact .inl ⟨rfl,rfl⟩|exact .inr ⟨rfl,rfl⟩
theorem Qh7(w:Rw QU)(d:Puz)(D k:Int)(a b:Edge)(v:Bool)(k':Int):(trU w d D k a b v k').Ok:=by
 refine⟨(by decide:648<=704),rfl,rfl,?_,rfl,λ_ _=>rfl,λ_ _=>rfl⟩
 intro q hq;simp only[UC.po,trU,pkW,List.mem_cons,List.not_mem_nil,or_false]at hq;rcases hq with rfl|rfl<;>exact⟨rfl,rfl,rfl,λ_=>rfl⟩
set_option maxHeartbeats 1000000 in
theorem Qfv(w:Rw QU)(d:Puz)(D k:Int)(a b:Edge)(hw:1<=w.n)(hg:Zz (k,a,b)=true):QS prog 31 (uFC (trU w d D k a b (trV w d.pK D k a b) (trK k a b))):=by
 have hT:Qf (QGj QK w):=QDe.add (QL8 w);refine K0 (E:=mkF prog (QGj QK w)) (KS hT) func31 (c:=Qn f31) (by kernel_rfl) (by kernel_rfl) (Qh7 ..) (λG hG _=>Qz (KS hT) 1 G _ hG) ⟨?_⟩
 simp only[Zz,qbA,qbO,Bool.not_eq_true',qdE]at hg;obtain⟨⟨hk0,hk1⟩,hs⟩:=hg;have hpb:QK [w.n=w.n,w.n=w.n,QB 1 w.n (λi=>QA.enc (w.get i)) λi=>QA.enc (w.get i)]=true:=KG.2 ⟨rfl,rfl,qRr,trivial⟩;have e1:i64.wrap (k+1)=k+1:=w64 (by omega) (by omega)
 have e2:i64.wrap (i64.wrap (k+1)+1)=k+2:=by rw[e1];exact(w64 (by omega) (by omega)).trans (by omega)
 have e3:i64.wrap (i64.wrap (i64.wrap (k+1)+1)+1)=k+3:=by rw[e2];exact(w64 (by omega) (by omega)).trans (by omega)
 have e4:i64.wrap (i64.wrap (i64.wrap (i64.wrap (k+1)+1)+1)+1)=k+4:=by rw[e3];exact(w64 (by omega) (by omega)).trans (by omega)
 have e5:i64.wrap (i64.wrap (i64.wrap (i64.wrap (i64.wrap (k+1)+1)+1)+1)+1)=k+5:=by rw[e4];exact(w64 (by omega) (by omega)).trans (by omega)
 have hsp:(Qd a b).2.2=true->Y3 (Qd a b).1=true/\Y3 (Qd a b).2.1=true:=λh=>by
  rcases hs with q|q
  .rw[h]at q;cases q
  .rcases QZo a b with ⟨p1,p2⟩|⟨p1,p2⟩
   .rw[p1,p2];exact q
   .rw[p1,p2];exact⟨q.2,q.1⟩
 have et:=Qgt QK w d D k a b (trV w d.pK D k a b) (trK k a b);refine Qh et ?_;clear et;refine QG (by rfl) ?_
 refine QE (λb0=>?_) (λb0=>?_);have his:(Qd a b).2.2=false:=by simpa using b0
 have hv:trV w d.pK D k a b=false:=by unfold trV;rw[his];rfl
 have hkk:trK k a b=k:=by unfold trK;rw[his];rfl
 rw[hv,hkk];refine⟨rfl,rfl,_,QWe w d D k a b false k,?_⟩
 rotate_left
 have his:(Qd a b).2.2=true:=by simpa using b0
 have hT1:=hsp his;simp only[Y3,H4,qbA,qdE]at hT1;obtain⟨⟨s1,s2,s3⟩,s4,s5,s6⟩:=hT1;have hv:trV w d.pK D k a b=Zv d.pK D (XA w d.pK k (Qd a b).1 (Qd a b).2.1) (YR w k (Qd a b).1 (Qd a b).2.1) (qA w k (Qd a b).1 (Qd a b).2.1):=by unfold trV;rw[his,cond_true]
 have hkk:trK k a b=nk k 6:=by unfold trK;rw[his,cond_true]
 refine QG (by exact Bool.and_eq_true_iff.2 ⟨qde ⟨hw,by omega,by omega,s1⟩,hpb⟩) ?_
 refine QG (by exact Bool.and_eq_true_iff.2 ⟨qde ⟨hw,by omega,by omega,s4⟩,hpb⟩) ?_
 refine QG (by exact Bool.and_eq_true_iff.2 ⟨qde ⟨hw,by omega,by omega,s5⟩,hpb⟩) ?_
 refine QG (by exact Bool.and_eq_true_iff.2 ⟨qde ⟨hw,by omega,by omega,s2⟩,hpb⟩) ?_
 refine QG (by exact Bool.and_eq_true_iff.2 ⟨qde ⟨hw,by omega,by omega,s6⟩,hpb⟩) ?_
 refine QG (by exact Bool.and_eq_true_iff.2 ⟨qde ⟨hw,by omega,by omega,s3⟩,hpb⟩) ?_
 refine QE (λb1=>?_) (λb1=>?_);refine QE (λb2=>?_) (λb2=>?_);refine QE (λb3=>?_) (λb3=>?_);refine QE (λb4=>?_) (λb4=>?_);refine QE ?_ ?_<;>intro b5
 have hv:trV w d.pK D k a b=decide (i64.wrap (qA w k (Qd a b).1 (Qd a b).2.1*D)<=i64.wrap (1000*d.pK.oK)):=by
  rw[hv];unfold Zv;rw[show decide (i64.wrap (XA w d.pK k (Qd a b).1 (Qd a b).2.1*D)<=i64.wrap (1000*d.pK.aK))=true from b1,show decide (i64.wrap (XA w d.pK k (Qd a b).1 (Qd a b).2.1*D)≥i64.wrap (-1000*d.pK.aK))=true from b2,show decide (YR w k (Qd a b).1 (Qd a b).2.1≥0)=true from b3,show decide (i64.wrap (YR w k (Qd a b).1 (Qd a b).2.1*D)<=i64.wrap (1000*d.pK.oK))=true from b4,show decide (qA w k (Qd a b).1 (Qd a b).2.1≥0)=true from b5];rfl
 rw[hv,hkk];refine⟨rfl,rfl,_,Qkd w d D k a b _ (nk k 6),?_⟩
 rotate_left
 have hv:trV w d.pK D k a b=false:=by
  rw[hv];unfold Zv;rw[show decide (i64.wrap (XA w d.pK k (Qd a b).1 (Qd a b).2.1*D)<=i64.wrap (1000*d.pK.aK))=true from b1,show decide (i64.wrap (XA w d.pK k (Qd a b).1 (Qd a b).2.1*D)≥i64.wrap (-1000*d.pK.aK))=true from b2,show decide (YR w k (Qd a b).1 (Qd a b).2.1≥0)=true from b3,show decide (i64.wrap (YR w k (Qd a b).1 (Qd a b).2.1*D)<=i64.wrap (1000*d.pK.oK))=true from b4,show decide (qA w k (Qd a b).1 (Qd a b).2.1≥0)=false from b5];rfl
 rw[hv,hkk];refine⟨rfl,rfl,_,QBF w d D k a b false (nk k 6),?_⟩
 rotate_left
 have hv:trV w d.pK D k a b=false:=by
  rw[hv];unfold Zv;rw[show decide (i64.wrap (XA w d.pK k (Qd a b).1 (Qd a b).2.1*D)<=i64.wrap (1000*d.pK.aK))=true from b1,show decide (i64.wrap (XA w d.pK k (Qd a b).1 (Qd a b).2.1*D)≥i64.wrap (-1000*d.pK.aK))=true from b2,show decide (YR w k (Qd a b).1 (Qd a b).2.1≥0)=true from b3,show decide (i64.wrap (YR w k (Qd a b).1 (Qd a b).2.1*D)<=i64.wrap (1000*d.pK.oK))=false from b4];rfl
 rw[hv,hkk];refine⟨rfl,rfl,_,QBF w d D k a b false (nk k 6),?_⟩
 rotate_left
 have hv:trV w d.pK D k a b=false:=by
  rw[hv];unfold Zv;rw[show decide (i64.wrap (XA w d.pK k (Qd a b).1 (Qd a b).2.1*D)<=i64.wrap (1000*d.pK.aK))=true from b1,show decide (i64.wrap (XA w d.pK k (Qd a b).1 (Qd a b).2.1*D)≥i64.wrap (-1000*d.pK.aK))=true from b2,show decide (YR w k (Qd a b).1 (Qd a b).2.1≥0)=false from b3];rfl
 rw[hv,hkk];refine⟨rfl,rfl,_,QBF w d D k a b false (nk k 6),?_⟩
 rotate_left
 have hv:trV w d.pK D k a b=false:=by
  rw[hv];unfold Zv;rw[show decide (i64.wrap (XA w d.pK k (Qd a b).1 (Qd a b).2.1*D)<=i64.wrap (1000*d.pK.aK))=true from b1,show decide (i64.wrap (XA w d.pK k (Qd a b).1 (Qd a b).2.1*D)≥i64.wrap (-1000*d.pK.aK))=false from b2];rfl
 rw[hv,hkk];refine⟨rfl,rfl,_,QBF w d D k a b false (nk k 6),?_⟩
 rotate_left
 have hv:trV w d.pK D k a b=false:=by
  rw[hv];unfold Zv;rw[show decide (i64.wrap (XA w d.pK k (Qd a b).1 (Qd a b).2.1*D)<=i64.wrap (1000*d.pK.aK))=false from b1];rfl
 rw[hv,hkk];refine⟨rfl,rfl,_,QBF w d D k a b false (nk k 6),?_⟩
 rotate_left
 all_goals (repeat' first|with_reducible refine QM ?_ ?_|exact tv|exact qRr|exact rfl|refine aI ?_ ?_)
def trC(pb:List Prop->Bool)(w:Rw QU):FC:=λargs nid _=>([344,16,1,368,8,640],λblks=>match args,blks with
 | [.agg [.int _ .i64 a0,.int _ .i64 a1,.int _ .i64 a2,.int _ .i64 a3,.int _ .i64 a4,.int _ .i64 a5,.int _ .i64 a6],.agg [.int _ .i64 b0,.int _ .i64 b1,.int _ .i64 b2,.int _ .i64 b3,.int _ .i64 b4,.int _ .i64 b5,.int _ .i64 b6],.ptr 368 0 0,.ptr 8 0 0,.ptr 640 0 0],[.cells 0 3 [.int _ .i64 k],.cells 0 41 [.slz 1 0 n (.of 0)],.frz [.int .u16] n' g,.cells 0 53 [.fn (.func 30) [.ptr 344 0 0,.ptr 16 0 0]],.cells 0 28 [.int _ .i64 p0,.int _ .i64 p1,.int _ .i64 p2,.int _ .i64 p3,.int _ .i64 p4,.int _ .i64 p5,.int _ .i64 p6,.bool _ q,.slz 0 0 m (.of 0)],.cells 0 3 [.int _ .i64 D]]=>match Nat.ble 648 nid with
  | true=>some ⟨false,Zz (k,⟨a0,⟨a1,a2⟩,⟨a3,a4⟩,⟨a5,a6⟩⟩,⟨b0,⟨b1,b2⟩,⟨b3,b4⟩,⟨b5,b6⟩⟩)&&(decide (1<=w.n)&&pb [n=w.n,n'=w.n,QB 1 w.n g λi=>QA.enc (w.get i)]),.bool false (trV w ⟨p0,p1,p2,⟨p3,p4⟩⟩ D k ⟨a0,⟨a1,a2⟩,⟨a3,a4⟩,⟨a5,a6⟩⟩ ⟨b0,⟨b1,b2⟩,⟨b3,b4⟩,⟨b5,b6⟩⟩),[(344,.cells 0 3 [.int false .i64 (trK k ⟨a0,⟨a1,a2⟩,⟨a3,a4⟩,⟨a5,a6⟩⟩ ⟨b0,⟨b1,b2⟩,⟨b3,b4⟩,⟨b5,b6⟩⟩)]),(16,.cells 0 41 [.slz 1 0 n (.of 0)])]⟩
  | false=>none
 | _,_=>none)
abbrev QRf:List Prop:=[0=0,0=0,0=0,0=0]
theorem QbO(w:Rw QU)(v:Bool)(k' D k a0 a1 a2 a3 a4 a5 a6 b0 b1 b2 b3 b4 b5 b6 p0 p1 p2 p3 p4 p5 p6:Int)(q c0 c1 c2 c3 c4 c5 c6 d0 d1 d2 d3 d4 d5 d6 e0 e1 e2 e3 e4 e5 e6 e f h:Bool)(m:Nat)(g:Nat->Nat->Int):QF 648 [.agg [.int c0 .i64 a0,.int c1 .i64 a1,.int c2 .i64 a2,.int c3 .i64 a3,.int c4 .i64 a4,.int c5 .i64 a5,.int c6 .i64 a6],.agg [.int d0 .i64 b0,.int d1 .i64 b1,.int d2 .i64 b2,.int d3 .i64 b3,.int d4 .i64 b4,.int d5 .i64 b5,.int d6 .i64 b6],.ptr 368 0 0,.ptr 8 0 0,.ptr 640 0 0] [(344,.cells 0 3 [.int e .i64 k]),(16,.cells 0 41 [.slz 1 0 w.n cO]),(1,.frz [.int .u16] w.n g),(368,.cells 0 53 [.fn (.func 30) [.ptr 344 0 0,.ptr 16 0 0]]),(8,.cells 0 28 [.int e0 .i64 p0,.int e1 .i64 p1,.int e2 .i64 p2, .int e3 .i64 p3,.int e4 .i64 p4,.int e5 .i64 p5,.int e6 .i64 p6,.bool f q,.slz 0 0 m cO]),(640,.cells 0 3 [.int h .i64 D])] (trU w ⟨⟨p0,p1,p2,⟨p3,p4⟩⟩,p5,p6,q, ⟨m,λ_=>QA.dec λ_=>0⟩⟩ D k ⟨a0,⟨a1,a2⟩,⟨a3,a4⟩,⟨a5,a6⟩⟩ ⟨b0,⟨b1,b2⟩,⟨b3,b4⟩,⟨b5,b6⟩⟩ v k').pre=(some ([a0=a0,a1=a1,a2=a2,a3=a3,a4=a4,a5=a5,a6=a6,b0=b0,b1=b1,b2=b2,b3=b3,b4=b4,b5=b5,b6=b6]++QRf++[0=0,0=0,k=k,0=0,w.n=w.n,cO=cO,Fn.func (30:FuncId)=Fn.func (30:FuncId)]++QRf++[p0=p0,p1=p1,p2=p2,p3=p3,p4=p4,p5=p5,p6=p6,q=q,0=0,m=m,cO=cO,D=D,w.n<=w.n,QB 1 w.n g λi=>QA.enc (w.get i)])):=by kernel_rfl
theorem QcM(w:Rw QU)(v:Bool)(k' D k a0 a1 a2 a3 a4 a5 a6 b0 b1 b2 b3 b4 b5 b6 p0 p1 p2 p3 p4 p5 p6:Int)(q c0 c1 c2 c3 c4 c5 c6 d0 d1 d2 d3 d4 d5 d6 e0 e1 e2 e3 e4 e5 e6 e f h:Bool)(m:Nat)(g:Nat->Nat->Int)(nid:Nat)(hb:Nat.ble 648 nid=true)(hg:QB 1 w.n g λi=>QA.enc (w.get i)):∃ ps,Ka ps/\(uFC (trU w ⟨⟨p0,p1,p2,⟨p3,p4⟩⟩,p5,p6,q,⟨m,λ_=>QA.dec λ_=>0⟩⟩ D k ⟨a0,⟨a1,a2⟩,⟨a3,a4⟩,⟨a5,a6⟩⟩ ⟨b0,⟨b1,b2⟩,⟨b3,b4⟩,⟨b5,b6⟩⟩ v k') [.agg [.int c0 .i64 a0,.int c1 .i64 a1,.int c2 .i64 a2,.int c3 .i64 a3,.int c4 .i64 a4,.int c5 .i64 a5,.int c6 .i64 a6],.agg [.int d0 .i64 b0,.int d1 .i64 b1,.int d2 .i64 b2,.int d3 .i64 b3,.int d4 .i64 b4,.int d5 .i64 b5,.int d6 .i64 b6],.ptr 368 0 0,.ptr 8 0 0,.ptr 640 0 0] nid [344,16,1,368,8,640]).2 [.cells 0 3 [.int e .i64 k],.cells 0 41 [.slz 1 0 w.n (.of 0)],.frz [.int .u16] w.n g,.cells 0 53 [.fn (.func 30) [.ptr 344 0 0,.ptr 16 0 0]],.cells 0 28 [.int e0 .i64 p0,.int e1 .i64 p1,.int e2 .i64 p2,.int e3 .i64 p3,.int e4 .i64 p4,.int e5 .i64 p5,.int e6 .i64 p6,.bool f q,.slz 0 0 m (.of 0)],.cells 0 3 [.int h .i64 D]]=some ⟨false,QK ps,.bool false v,[(344,.cells 0 3 [.int false .i64 k']),(16,.cells 0 41 [.slz 1 0 w.n (.of 0)])]⟩:=by
 obtain⟨ps,hs,hps⟩:∃ ps,QF 648 [.agg [.int c0 .i64 a0,.int c1 .i64 a1,.int c2 .i64 a2,.int c3 .i64 a3,.int c4 .i64 a4,.int c5 .i64 a5,.int c6 .i64 a6],.agg [.int d0 .i64 b0,.int d1 .i64 b1,.int d2 .i64 b2,.int d3 .i64 b3,.int d4 .i64 b4,.int d5 .i64 b5,.int d6 .i64 b6],.ptr 368 0 0,.ptr 8 0 0,.ptr 640 0 0] [(344,.cells 0 3 [.int e .i64 k]),(16,.cells 0 41 [.slz 1 0 w.n (.of 0)]),(1,.frz [.int .u16] w.n g),(368,.cells 0 53 [.fn (.func 30) [.ptr 344 0 0,.ptr 16 0 0]]),(8,.cells 0 28 [.int e0 .i64 p0,.int e1 .i64 p1,.int e2 .i64 p2,.int e3 .i64 p3,.int e4 .i64 p4,.int e5 .i64 p5,.int e6 .i64 p6,.bool f q,.slz 0 0 m (.of 0)]),(640,.cells 0 3 [.int h .i64 D])] (trU w ⟨⟨p0,p1,p2,⟨p3,p4⟩⟩,p5,p6,q,⟨m,λ_=>QA.dec λ_=>0⟩⟩ D k ⟨a0,⟨a1,a2⟩,⟨a3,a4⟩,⟨a5,a6⟩⟩ ⟨b0,⟨b1,b2⟩,⟨b3,b4⟩,⟨b5,b6⟩⟩ v k').pre=some ps/\Ka ps:=by
  refine⟨_,QbO w v k' D k a0 a1 a2 a3 a4 a5 a6 b0 b1 b2 b3 b4 b5 b6 p0 p1 p2 p3 p4 p5 p6 q c0 c1 c2 c3 c4 c5 c6 d0 d1 d2 d3 d4 d5 d6 e0 e1 e2 e3 e4 e5 e6 e f h m g,?_⟩
  repeat' first|with_reducible refine QM ?_ ?_|exact tv|exact hg|refine aI ?_ ?_
 have:=QOg (pb:=QK) (U:=(trU w ⟨⟨p0,p1,p2,⟨p3,p4⟩⟩,p5,p6,q,⟨m,λ_=>QA.dec λ_=>0⟩⟩ D k ⟨a0,⟨a1,a2⟩,⟨a3,a4⟩,⟨a5,a6⟩⟩ ⟨b0,⟨b1,b2⟩,⟨b3,b4⟩,⟨b5,b6⟩⟩ v k')) (nid:=nid) (gn:=[]) hs rfl hb (by kernel_rfl)
 refine⟨ps,hps,?_⟩;simp only[uFC,KT,QAq,QCK,WO (qG 6)]
 exact(Eq.trans (b:=jz QK (trU w ⟨⟨p0,p1,p2,⟨p3,p4⟩⟩,p5,p6,q,⟨m,λ_=>QA.dec λ_=>0⟩⟩ D k ⟨a0,⟨a1,a2⟩,⟨a3,a4⟩,⟨a5,a6⟩⟩ ⟨b0,⟨b1,b2⟩,⟨b3,b4⟩,⟨b5,b6⟩⟩ v k') [.agg [.int c0 .i64 a0,.int c1 .i64 a1,.int c2 .i64 a2,.int c3 .i64 a3,.int c4 .i64 a4,.int c5 .i64 a5,.int c6 .i64 a6],.agg [.int d0 .i64 b0,.int d1 .i64 b1,.int d2 .i64 b2,.int d3 .i64 b3,.int d4 .i64 b4,.int d5 .i64 b5,.int d6 .i64 b6],.ptr 368 0 0,.ptr 8 0 0,.ptr 640 0 0] nid [(344,.cells 0 3 [.int e .i64 k]),(16,.cells 0 41 [.slz 1 0 w.n (.of 0)]),(1,.frz [.int .u16] w.n g),(368,.cells 0 53 [.fn (.func 30) [.ptr 344 0 0,.ptr 16 0 0]]),(8,.cells 0 28 [.int e0 .i64 p0,.int e1 .i64 p1,.int e2 .i64 p2,.int e3 .i64 p3,.int e4 .i64 p4,.int e5 .i64 p5,.int e6 .i64 p6,.bool f q,.slz 0 0 m (.of 0)]),(640,.cells 0 3 [.int h .i64 D])] []) (by kernel_rfl) (this.trans (by kernel_rfl)))
theorem QhE(w:Rw QU):QS prog 31 (trC QK w):=by
 refine⟨by kernel_rfl,λargs nid all r w' lk blks eff hH ha hv he hp=>?_⟩
 simp only[trC]at he;split at he<;>(try (cases he;done))
 split at he<;>(try (cases he;done))
 rename_i hb;simp only[qsI]at he;subst he;simp only[qbA]at hp;obtain⟨h1,h2,hp⟩:=hp;obtain⟨rfl,rfl,hr,_⟩:=KG.1 hp;obtain⟨ps,hps,he⟩:=QcM w (trV ..) (trK ..) _ _ _ _ _ _ _ _ _ _ _ _ _ _ _ _ _ _ _ _ _ _ _ _ _ _ _ _ _ _ _ _ _ _ _ _ _ _ _ _ _ _ _ _ _ _ _ _ _ _ nid hb hr;exact(Qfv w ⟨⟨_,_,_,⟨_,_⟩⟩,_,_,_,⟨_,λ_=>QA.dec λ_=>0⟩⟩ _ _ _ _ (qdt h2) h1).2 _ nid [344,16,1,368,8,640] r w' lk _ ⟨false,QK ps,_,_⟩ hH ha hv he (KG.2 hps)
def rmW(n:Nat):Nat->Bool
 | 0=>i64.wrap ((n:Int).tdiv d.wide)==0
 | 1=>(n:Int).tmod d.wide==i64.wrap (d.wide-1)
 | 2=>i64.wrap ((n:Int).tdiv d.wide)==i64.wrap (d.high-1)
 | _=>(n:Int).tmod d.wide==0
def Xb(x:Lay)(q:Nat->Bool)(k:Nat):Bool:=q k&&((KI (d.ps.get x.piece.toNat) (onS x k).toNat).kind != 0)
def sdR(y:Lay)(s:Int):Edge:=KI (d.ps.get y.piece.toNat) (onS y s).toNat
structure Y2 (d:Puz) (x:Lay):Prop where
 p:0<=x.piece/\x.piece<d.ps.n
 t:0<=x.turn/\x.turn<4
structure Qlh (d:Puz) (l:Rw Lay) (x:Lay):Prop where
 n:d.ps.n<=1000/\l.n<=1000/\1<=d.wide/\d.wide<=1000
 x:Y2 d x
 l:∀ i,i<l.n->Y2 d (l.get i)
