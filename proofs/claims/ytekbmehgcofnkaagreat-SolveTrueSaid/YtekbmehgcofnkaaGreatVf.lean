/- - -/
import Derived.Test.YtekbmehgcofnkaaGreatVe
namespace Go.SX
open Go Go.RowKit Go.Proofs.YtekbmehgcofnkaaGreat
def KD:List (List AV)->Nat->Nat->Nat->Int
 | [],_,_,_=>0
 | [y],_,_,j=>qf y j
 | y::y'::ys,k,i,j=>cond (decide (i=k)) (qf y j) (KD (y'::ys) (k+1) i j)
def KQ(n:Nat)(g h:Nat->Nat->Int)(i j:Nat):Int:=match n with
 | 0=>h i j
 | n+1=>cond (decide (i<n+1)) (g i j) (h (i-(n+1)) j)
def kOf:AV->CK
 | .int _ k _ => .int k
 | _ => .bool
def ckB:CK->CK->Bool
 | .int k,.int k'=>k==k'
 | .bool,.bool=>true
 | _,_=>false
def ksB:List CK->List CK->Bool
 | [],[]=>true
 | k::ks,k'::ks'=>ckB k k'&&ksB ks ks'
 | _,_=>false
def Xz:List (List AV)->Option (List CK)
 | []=>none
 | y::_=>some (y.map kOf)
structure Zr where
 n:Nat
 g:Nat->Nat->Int
 p:Bool
 use:Bool
 ks:Option (List CK)
def Gw(ks:Option (List CK))(l:List (List AV)):Bool:=match ks with
 | some ks=>l.all (Xd ks)
 | none=>true
def QHO(sz:Nat)(ty:TypeId):AV->Option Blk->Option Zr
 | .nils,none=>some ⟨0,λ_ _=>0,true,false,none⟩
 | .slz _ e len cp,some b=>(match cp with
  | .lit c=>(match Nat.beq c 0&&Nat.beq len 0 with
   | true=>some ⟨0,λ_ _=>0,true,false,none⟩
   | false=>none)
  | .of k=>(match Nat.beq e 0&&Nat.beq k 0 with
   | true=>(match b with
    | .rowz true ty' ks n g=>(match ks.length==sz&&ty'==ty with
     | true=>some ⟨len,g,decide (len<=n),true,some ks⟩
     | false=>none)
    | _=>none)
   | false=>none))
 | .slice _ _ e len cp,some b=>(match cp with
  | .of k=>(match Nat.beq e 0&&Nat.beq k 0 with
   | true=>(match b with
    | .rowl ty' z l=>(match z==sz&&ty'==ty&&decide (len<=l.length)&&Gw (Xz l) l with
     | true=>some ⟨len,KD l 0,true,true,Xz l⟩
     | false=>none)
    | _=>none)
   | false=>none)
  | .lit c=>(match Nat.beq c 0&&Nat.beq len 0 with
   | true=>some ⟨0,λ_ _=>0,true,false,none⟩
   | false=>(match Nat.beq e 0 with
    | true=>(match b with
     | .rowl ty' z l=>(match z==sz&&ty'==ty&&decide (len<=l.length)&&decide (c<=l.length)&&Gw (Xz l) l with
      | true=>some ⟨len,KD l 0,true,true,Xz l⟩
      | false=>none)
     | _=>none)
    | false=>none)))
 | _,_=>none
def QJK(sz:Nat):AV->Option Blk->Option Zr
 | .slz _ e m _,some (.rowz _ _ ks n g)=>match ks.length==sz with
  | true=>some ⟨m,λi=>g (i+e),decide (m+e<=n),false,some ks⟩
  | false=>none
 | .slz _ e m _,some (.frz ks n g)=>match ks.length==sz with
  | true=>some ⟨m,λi=>g (i+e),decide (m+e<=n),false,some ks⟩
  | false=>none
 | x,b=>match QB4 sz x b with
  | some news=>(match Gw (Xz news) news with
   | true=>some ⟨news.length,KD news 0,true,false,Xz news⟩
   | false=>none)
  | none=>none
def idS:AV->List Nat
 | .slice _ id _ _ _=>[id]
 | .slz id _ _ _=>[id]
 | _=>[]
def QGE(use:Bool)(s:AV):List (Nat×Blk):=match use with
 | true=>(idS s).map λid=>(id,.gone)
 | false=>[]
def QLQ:Option (List CK)->Option (List CK)->Option (List CK)
 | some a,some b=>match ksB a b with
  | true=>some a
  | false=>none
 | some a,none=>some a
 | none,some b=>some b
 | none,none=>none
def QJd(P:Program)(ts:List TypeId)(s x:AV)(sb xb:Option Blk)(nid:Nat):Option Eff:=
 match ts with
 | [t,tx]=>match P.underlying t,P.underlying tx with
  | some (.slice e),some (.slice _)=>match P.info? e with
   | some i=>match i.zero with
    | some z=>match z.cells.size==i.size with
     | true=>(match QHO i.size e s sb,QJK i.size x xb with
      | some o,some q=>(match QLQ o.ks q.ks with
       | some ks=>(match ks.length==i.size with
        | true=>some ⟨false,o.p&&(q.p&&decide ((o.n+q.n+(o.n+q.n) / 4+192)*i.bytes<=281474976710656/\o.n+q.n<=9223372036854775807)),.slz nid 0 (o.n+q.n) (.of 0),QGE o.use s++[(nid,.rowz true e ks (o.n+q.n) (KQ o.n o.g q.g))]⟩
        | false=>none)
       | none=>none)
      | _,_=>none)
     | false=>none
    | none=>none
   | none=>none
  | _,_=>none
 | _=>none
theorem Yb:∀{a b:List CK},ksB a b=true->a=b
 | [],[],_=>rfl
 | [],_::_,h=>by cases h
 | _::_,[],h=>by cases h
 | k::a,k'::b,h=>by
  simp only[ksB,qbA]at h;rw[Yb h.2];congr 1;have h1:=h.1;cases k<;>cases k'<;>simp only[ckB,Bool.false_eq_true]at h1
  .rw[beq_iff_eq.1 h1]
  .rfl
variable {ks:List CK}{l:List (List AV)}{r:Nat->Loc}{w:World}{ty:TypeId}{lk:Nat->Option Blk}{nid:Nat}
theorem QQ6(r:Nat->Loc){y:List AV}(h:Xd ks y=true):AV.denL r (cellsOf ks 0 (qf y))=AV.denL r y:=QLJ r ks y 0 _ h (λi _=>by rw[Nat.zero_add])
theorem QDD(r:Nat->Loc){ks:List CK}:∀(l:List (List AV)) (k i:Nat) (x:List AV),l.all (Xd ks)=true->l[i]? = some x->AV.denL r (cellsOf ks 0 (KD l k (k+i)))=AV.denL r x
 | [],_,i,x,_,h=>by simp at h
 | [y],k,i,x,ho,h=>by
  cases i with
  | zero=>
   simp only[List.getElem?_cons_zero,qsI]at h;subst h;exact QQ6 r (by simpa using ho)
  | succ i=>simp at h
 | y::y'::ys,k,i,x,ho,h=>by
  rw[List.all_cons,qbA]at ho;cases i with
  | zero=>
   simp only[List.getElem?_cons_zero,qsI]at h;subst h;rw[<-QQ6 r ho.1];congr 1;exact ql ks 0 λj _=>by simp[KD]
  | succ i=>
   rw[<-QDD r (y'::ys) (k+1) i x ho.2 (by simpa using h)]
   congr 1
   exact ql ks 0 λj _=>by
    rw[KD,decide_eq_false (by omega),cond_false,show k+(i+1)=k+1+i by omega]
theorem X4(n:Nat)(g h:Nat->Nat->Int)(i j:Nat):KQ n g h i j=if i<n then g i j else h (i-n) j:=by
 cases n with
 | zero=>simp[KQ]
 | succ n=>
  simp only[KQ]
  by_cases hi:i<n+1
  .rw[qde hi,if_pos hi];rfl
  .rw[decide_eq_false hi,if_neg hi];rfl
theorem QKh(h:Xz l=some ks)(ho:Gw (Xz l) l=true):l.all (Xd ks)=true:=by rw[h]at ho;exact ho
theorem QWG(ho:Gw (Xz l) l=true):l.all Jr=true:=by
 cases l with
 | nil=>rfl
 | cons y ys=>
  have h0:=QKh (ks:=y.map kOf) rfl ho;rw[List.all_eq_true]at h0 ⊢;intro x hx;have:=h0 x hx
  have key:∀(ks:List CK) (x:List AV),Xd ks x=true->Jr x=true:=by
   intro ks
   induction ks with
   | nil=>intro x h;cases x with
    | nil=>rfl
    | cons _ _=>cases h
   | cons k ks ih=>
    intro x h;cases x with
    | nil=>cases h
    | cons v x=>
     simp only[Xd,qbA]at h;rw[Jr,List.all_cons,qbA];refine⟨?_,ih x h.2⟩;have h1:=h.1;cases k<;>cases v<;>simp only[okC,Bool.false_eq_true]at h1<;>rfl
  exact key _ x this
theorem QBo{id:Nat}{z:Nat}(h:QN r id w (.rowl ty z l)){k:Nat}(hk:k<=l.length):QN r id w (.rowl ty z (l.take k)):=by
 obtain⟨h1,h2,h3,h4,rest,h5,h6⟩:=h;refine⟨h1,h2,λx hx=>h3 x (List.mem_of_mem_take hx),by simp;omega,AV.denL r (l.drop k).flatten++rest,?_,?_⟩
 .have e1:=Y0 z (l.drop k) (λx hx=>h3 x (List.mem_of_mem_drop hx));rw[List.length_append,Kf,e1,List.length_drop,List.length_take,Nat.min_eq_left hk];have e2:(l.length-k)*z+((r id).cap-l.length)*z=((r id).cap-k)*z:=by rw[<-Nat.add_mul];congr 1;omega
  omega
 .rw[h6,<-List.append_assoc,<-qY,<-List.flatten_append,List.take_append_drop]
theorem QWa{P:Program}{sz:Nat}{x:AV}{xb:Option Blk}{q:Zr}(hn:QJK sz x xb=some q)(hq:q.p=true)(hx:∀ id b,idS x=[id]->xb=some b->QN r id w b){tx e':TypeId}(hk:P.underlying tx=some (.slice e'))(hks:∀ a,q.ks=some a->a=ks)(hsz:ks.length=sz):
  Src P sz tx (x.den r) q.n (AV.denL r (Q9 q.n (QY ks q.g)).flatten) w:=by
 have core:∀(base:Option Addr) (m cap:Nat) (h:Nat->Nat->Int),(0<m->∃ b o,base=some ⟨b,o,none⟩/\∀ i,i<m->∀ j v,(QY ks h i)[j]? = some v->w.cell? ⟨b,o+i*sz+j,none⟩=some (v.den r)) ->
   Src P sz tx (.slice base m cap) m (AV.denL r (Q9 m (QY ks h)).flatten) w:=by
  intro base m cap h hcell
  have hsz':∀ y∈Q9 m (QY ks h),y.length=sz:=λy hy=>by
   obtain⟨i,hi,rfl⟩:=Wi hy;rw[QY,XZ];exact hsz
  have h1:∀ u∈AV.denL r (Q9 m (QY ks h)).flatten,u.oneCell'=true:=by
   intro u hu;rw[Qy]at hu;obtain⟨v,hv,rfl⟩:=List.mem_map.1 hu;obtain⟨y,hy,hvy⟩:=List.mem_flatten.1 hv;obtain⟨i,hi,rfl⟩:=Wi hy;have:=VD ks 0 (h i);simp only[Jr,List.all_eq_true,qL,qbA]at this;exact QEH r (this v hvy).1
  have hl:(AV.denL r (Q9 m (QY ks h)).flatten).length=m*sz:=by rw[Kf,Y0 sz _ hsz',JV]
  by_cases hm:m=0
  .subst hm;cases base with
   | none=>exact Src.ofNil w hk cap
   | some a=>exact Src.ofSlice w hk a 0 cap _ hl (λj u hu=>by simp[Q9,AV.denL]at hu) h1
  .obtain⟨b,o,rfl,hc⟩:=hcell (by omega)
   refine Src.ofSlice w hk _ _ _ _ hl (λj u hu=>?_) h1;rw[Ve];rw[Qy,List.getElem?_map]at hu;obtain⟨v,hv,rfl⟩:=Option.map_eq_some_iff.1 hu;have hj:=(List.getElem?_eq_some_iff.1 hv).1;rw[Y0 sz _ hsz',JV]at hj
   have hs0 : 0 < sz := by rcases Nat.eq_zero_or_pos sz with e | e; · rw[e]at hj; omega
                           . exact e
   have hd:j / sz<m:=Nat.div_lt_of_lt_mul (by rw[Nat.mul_comm];exact hj)
   have hmod:=Nat.mod_lt j hs0;have he:j / sz*sz+j % sz=j:=by rw[Nat.mul_comm];exact Nat.div_add_mod j sz
   obtain⟨_,f2⟩:=jL sz _ hsz' (j / sz) _ (YN hd) (j % sz) hmod;rw[he]at f2;have:=hc (j / sz) hd (j % sz) v (by rw[<-f2,hv])
   rw[Nat.add_assoc,he]at this;exact this
 unfold QJK at hn;split at hn
 .rename_i id e mm cp o ty ks0 n get;split at hn<;>(try (cases hn;done))
  simp only[qsI]at hn;subst hn;simp only[qdE]at hq;have:=hks _ rfl;subst this;have hb:Kl r id w ty ks0.length n (QY ks0 get):=hx id _ rfl rfl;refine core _ _ _ _ λhm=>?_;have hnil:=QCd hb (by omega)
  refine⟨(r id).blk,(r id).off+e*(r id).esz,by simp[Loc.base,hnil],λi hi j v hv=>?_⟩
  have:=QHc hb (e:=i+e) (by omega) hv
  rw[<-hsz,hb.2.1,Nat.add_assoc (r id).off,<-Nat.add_mul,Nat.add_comm e i];exact this
 .rename_i id e mm cp ks0 n get;split at hn<;>(try (cases hn;done))
  simp only[qsI]at hn;subst hn;simp only[qdE]at hq;have:=hks _ rfl;subst this;have hb:=hx id _ rfl rfl;refine core _ _ _ _ λhm=>?_
  have hnil:(r id).nil=false:=by
   cases hh:(r id).nil with
   | false=>rfl
   | true=>have:=hb.2.2.1 hh;omega
  refine⟨(r id).blk,(r id).off+e*(r id).esz,by simp[Loc.base,hnil],λi hi j v hv=>?_⟩
  have:=((hb.2.2.2 (i+e) (by omega)).2.2 j v hv).2
  rw[<-hsz,hb.1,Nat.add_assoc (r id).off,<-Nat.add_mul,Nat.add_comm e i];exact this
 .split at hn<;>(try (cases hn;done))
  rename_i news hnews;split at hn<;>(try (cases hn;done))
  rename_i hfl;simp only[qsI]at hn;subst hn;obtain⟨hR,hxk⟩:=QGy (r:=r) (w:=w) hnews (λc id e n cp b' hxe hb=>hx id b' (by rw[hxe];rfl) hb)
  have hat:news.all (λy=>y.all AV.atom)=true:=by
   have hfl:=QWG hfl;rw[List.all_eq_true]at hfl ⊢;intro y hy;have:=hfl y hy;simp only[Jr,List.all_eq_true,qL,qbA]at this ⊢;exact λv hv=>(this v hv).1
  have hsrc:=QNV (P:=P) hR hxk hk hat
  have hcg:AV.denL r news.flatten=AV.denL r (Q9 news.length (QY ks (KD news 0))).flatten:=by
   cases hkn:Xz news with
   | none=>
    cases news with
    | nil=>rfl
    | cons _ _=>cases hkn
   | some a=>
    have:=hks a (by simp only;exact hkn)
    subst this;have hall:=QKh hkn hfl;apply QFk;apply List.ext_getElem?;intro i;rw[List.getElem?_map,List.getElem?_map];rcases Nat.lt_or_ge i news.length with hi|hi
    .rw[YN hi,List.getElem?_eq_getElem hi];have:=QDD r news 0 i _ hall (List.getElem?_eq_getElem hi);rw[Nat.zero_add]at this;simp only[Option.map_some,QY,this]
    .rw[List.getElem?_eq_none hi,List.getElem?_eq_none (by rw[JV];exact hi)]
  exact hcg ▸ hsrc
theorem Qiy{sz:Nat}{s:AV}{sb:Option Blk}{o:Zr}(h:QHO sz ty s sb=some o)(hp:o.p=true)(hs:∀ id b,idS s=[id]->sb=some b->QN r id w b)(hks:∀ a,o.ks=some a->a=ks):
  (o.use=false/\o.n=0/\∃ base,s.den r = .slice base 0 0) ∨
  (o.use=true/\∃ id b,idS s=[id]/\sb=some b/\((o.n=0/\(∀ k,¬ Qo r id b k)/\∃ base,s.den r = .slice base 0 0) ∨
   ∃ L cap,L.length=o.n/\(∀ i x,L[i]? = some x->AV.denL r x=AV.denL r (QY ks o.g i))/\L.all Jr=true/\QN r id w (.rowl ty sz L)/\cap<=(r id).cap/\s.den r = .slice (some ⟨(r id).blk,0,none⟩) o.n cap/\∀ k,Qo r id b k↔k=(r id).blk)):=by
 have ofRows:∀(l:List (List AV)) (len:Nat),len<=l.length->Gw (Xz l) l=true->(∀ a,Xz l=some a->a=ks)->(∀ i x,(l.take len)[i]? = some x->AV.denL r x=AV.denL r (QY ks (KD l 0) i))/\(l.take len).all Jr=true/\(l.take len).length=len:=by
  intro l len hle hfl hkl;refine⟨λi x hx=>?_,?_,by simp;omega⟩
  .have hi:=(List.getElem?_eq_some_iff.1 hx).1;rw[List.getElem?_take_of_lt (by simp at hi;omega)]at hx
   cases hkn:Xz l with
   | none=>
    cases l with
    | nil=>simp at hx
    | cons _ _=>cases hkn
   | some a=>
    have:=hkl a hkn;subst this;have:=QDD r l 0 i x (QKh hkn hfl) hx;rw[Nat.zero_add]at this;exact this.symm
  .have hfl:=QWG hfl;rw[List.all_eq_true]at hfl ⊢;exact λy hy=>hfl y (List.mem_of_mem_take hy)
 unfold QHO at h;split at h
 .simp only[qsI]at h;subst h;exact .inl ⟨rfl,rfl,none,rfl⟩
 .rename_i id e len cp b;cases cp with
  | lit c=>
   simp only at h;split at h<;>(try (cases h;done))
   rename_i hc;simp only[qbA]at hc;have c0:=qnb hc.1;have l0:=qnb hc.2;subst c0;subst l0;simp only[qsI]at h;subst h;refine .inl ⟨rfl,rfl,(r id).base e,?_⟩;simp only[AV.den,Cap.den,Loc.room];cases (r id).nil<;>rfl
  | of k=>
   simp only at h;split at h<;>(try (cases h;done))
   rename_i hc;simp only[qbA]at hc;have e0:=qnb hc.1;have k0:=qnb hc.2;subst e0;subst k0;split at h<;>(try (cases h;done))
   rename_i ty' ks0 nn get;split at h<;>(try (cases h;done))
   rename_i hc;simp only[qbA,beq_iff_eq]at hc;obtain⟨rfl,rfl⟩:=hc;simp only[qsI]at h;subst h;simp only[qdE]at hp;have:=hks _ rfl;subst this;have hb:Kl r id w ty' ks0.length nn (QY ks0 get):=hs id _ rfl rfl;refine .inr ⟨rfl,id,_,rfl,rfl,?_⟩;cases hnil:(r id).nil with
   | true=>
    have:=hb.2.2.2.1 hnil;refine .inl ⟨by simp only;omega,λk hk=>?_,(r id).nb,?_⟩
    .have:=((hb.2.2.1 k).1 hk).1;rw[hnil]at this;cases this
    .have e0:len=0:=by omega
     subst e0;simp only[AV.den,Loc.base,Loc.room,hnil]
   | false=>
    have hrow:=QBo (QAs hb hnil) (k:=len) (by rw[JV];exact hp)
    have hfl:=hb.2.2.2.2.1;refine .inr ⟨(Q9 nn (QY ks0 get)).take len,(r id).cap,by simp[JV];omega,λi x hx=>?_,?_,hrow,qlr _,?_,λk=>?_⟩
    .have hi:=(List.getElem?_eq_some_iff.1 hx).1;simp only[List.length_take,JV]at hi;rw[List.getElem?_take_of_lt (by omega),YN (by omega)]at hx
     simp only[qsI]at hx;subst hx;rfl
    .rw[List.all_eq_true];intro y hy;obtain⟨i,hi,rfl⟩:=Wi (List.mem_of_mem_take hy);exact(hfl i hi).2
    .simp only[AV.den,Loc.base,Loc.room,hnil,Cap.den,hb.1,Nat.zero_mul,Nat.zero_add,Nat.sub_zero]
    .refine(hb.2.2.1 k).trans ?_;rw[hnil];simp
 .rename_i c id e len cp b;cases cp with
  | of k=>
   simp only at h;split at h<;>(try (cases h;done))
   rename_i hc;simp only[qbA]at hc;have e0:=qnb hc.1;have k0:=qnb hc.2;subst e0;subst k0;split at h<;>(try (cases h;done))
   rename_i ty' z l;split at h<;>(try (cases h;done))
   rename_i hc;simp only[qbA,beq_iff_eq,qdE]at hc;obtain⟨⟨⟨rfl,rfl⟩,hle⟩,hfl⟩:=hc;simp only[qsI]at h;subst h;have hb:=hs id _ rfl rfl;obtain⟨o1,o3,o4⟩:=ofRows l len hle hfl hks;refine .inr ⟨rfl,id,_,rfl,rfl,.inr ⟨l.take len,(r id).cap,o4,o1,o3,QBo hb hle,qlr _,?_,λk=>Iff.rfl⟩⟩;simp only[AV.den,Cap.den,hb.1,Nat.zero_mul,Nat.zero_add,Nat.sub_zero]
  | lit cp=>
   simp only at h;split at h
   .rename_i hc;simp only[qbA]at hc;have c0:=qnb hc.1;have l0:=qnb hc.2;subst c0;subst l0;simp only[qsI]at h;subst h;exact .inl ⟨rfl,rfl,_,rfl⟩
   .split at h<;>(try (cases h;done))
    rename_i hc;have e0:=qnb hc;subst e0;split at h<;>(try (cases h;done))
    rename_i ty' z l;split at h<;>(try (cases h;done))
    rename_i hc;simp only[qbA,beq_iff_eq,qdE]at hc;obtain⟨⟨⟨⟨rfl,rfl⟩,hle⟩,hcp⟩,hfl⟩:=hc;simp only[qsI]at h;subst h;have hb:=hs id _ rfl rfl;obtain⟨o1,o3,o4⟩:=ofRows l len hle hfl hks;refine .inr ⟨rfl,id,_,rfl,rfl,.inr ⟨l.take len,cp,o4,o1,o3,QBo hb hle,Nat.le_trans hcp hb.2.2.2.1,?_,λk=>Iff.rfl⟩⟩;simp only[AV.den,Cap.den,hb.1,Nat.zero_mul,Nat.zero_add]
 .cases h
theorem Qv.toZ{r':Nat->Loc}{w':World}{n:Nat}{g:Nat->Nat->Int}(h:Qv lk r nid [(nid,.rowl ty ks.length l)] w r' w')(hn:(r' nid).nil=false)(hf:∀ k,(r' nid).foot k↔k=(r' nid).blk)(hl:l.length=n)(hg:∀ i x,l[i]? = some x->AV.denL r' x=AV.denL r' (QY ks g i)):Qv lk r nid [(nid,.rowz true ty ks n g)] w r' w':=by
 have hr:QN r' nid w' (.rowz true ty ks n g):=QAz (h.rep (nid,.rowl ty ks.length l) (by simp)) hn hf hl hg (λi _=>VD _ _ _)
 refine⟨h.same,λp hp=>?_,⟨h.fr.os,h.fr.tape,h.fr.output,h.fr.size,h.fr.drawn,λk hk hc=>h.fr.block k hk ?_⟩,λp hp hin hlv k hk=>?_,λp hp hin=>?_,λp hp q hq _ _ hne=>?_⟩
 .simp only[List.mem_singleton]at hp;subst hp;exact hr
 .rintro⟨p,hp,hin,_⟩;simp only[List.mem_singleton]at hp;subst hp;rw[Zu]at hin;cases hin
 .simp only[List.mem_singleton]at hp;subst hp;have:=h.new (nid,.rowl ty ks.length l) (by simp) hin rfl k ((hf k).1 hk)
  rcases this with h1|⟨q,hq,h1,_⟩|⟨h1,_⟩
  .exact .inl h1
  .simp only[List.mem_singleton]at hq;subst hq;rw[Zu]at h1;cases h1
  .cases h1
 .simp only[List.mem_singleton]at hp;subst hp;rw[Zu]at hin;cases hin
 .simp only[List.mem_singleton]at hp hq;subst hp;subst hq;exact absurd rfl hne
theorem Qv.ghost{l:Loc}{b:Blk}(hb:QN (Qw r nid l) nid w b)(hf:∀ k,¬ Qo (Qw r nid l) nid b k):Qv lk r nid [(nid,b)] w (Qw r nid l) w:=by
 refine⟨λid h=>by unfold Qw;rw[if_neg (jQ h)],λp hp=>?_,Fr.refl w _,λp hp hin hlv k hk=>?_,λp hp hin=>?_,λp hp q hq _ _ hne=>?_⟩
 .simp only[List.mem_singleton]at hp;subst hp;exact hb
 .simp only[List.mem_singleton]at hp;subst hp;exact absurd hk (hf k)
 .simp only[List.mem_singleton]at hp;subst hp;rw[Zu]at hin;cases hin
 .simp only[List.mem_singleton]at hp hq;subst hp;subst hq;exact absurd rfl hne
theorem QZF{id n:Nat}(hn:(r id).nil=false):(AV.slice true id 0 n (.of 0)).den r=(AV.slz id 0 n (.of 0)).den r:=by
 simp only[AV.den,Loc.base,Loc.room,hn]
theorem QOf{base:Option Addr}{e:TypeId}{g:Nat->Nat->Int}:QN (Qw r nid ⟨0,0,ks.length,0,true,base,λ_=>False⟩) nid w (.rowz true e ks 0 g):=by
 simp only[QN,Kl,Qw,if_true];refine⟨trivial,trivial,λk=>?_,λ_=>trivial,λi hi=>by omega,λh=>by cases h⟩
 simp
theorem Qld{a b:Option (List CK)}(h:QLQ a b=some ks):(∀ x,a=some x->x=ks)/\∀ x,b=some x->x=ks:=by
 unfold QLQ at h;split at h
 .split at h<;>(try (cases h;done))
  rename_i hb;have:=Yb hb;simp only[qsI]at h;subst h;subst this;exact⟨λx hx=>by simpa using hx.symm,λx hx=>by simpa using hx.symm⟩
 .simp only[qsI]at h;subst h;exact⟨λx hx=>by simpa using hx.symm,λx hx=>by cases hx⟩
 .simp only[qsI]at h;subst h;exact⟨λx hx=>(by cases hx),λx hx=>by simpa using hx.symm⟩
 .cases h
theorem QYq{P:Program}{ts:List TypeId}{s x:AV}{sb xb:Option Blk}{eff:Eff}(h:QJd P ts s x sb xb nid=some eff)(hp:eff.pre=true)(hs:∀ id b,idS s=[id]->sb=some b->QN r id w b/\inR nid id=false/\lk id=some b)(hx:∀ id b,idS x=[id]->xb=some b->QN r id w b)(ty:TypeId):
  ∃ w' r',(Builtin.append_ ts.toArray ty #[s.den r,x.den r]).run P w = .ok (eff.val.den r') w'/\Qv lk r nid eff.upd w r' w':=by
 unfold QJd at h;split at h<;>(try (cases h;done))
 rename_i t tx;split at h<;>(try (cases h;done))
 rename_i e e' ht htx;split at h<;>(try (cases h;done))
 rename_i i hi;split at h<;>(try (cases h;done))
 rename_i z hz;split at h<;>(try (cases h;done))
 rename_i hzs;have hzs:z.cells.size=i.size:=by simpa using hzs
 split at h<;>(try (cases h;done))
 rename_i o q ho hn;split at h<;>(try (cases h;done))
 rename_i ks hks;split at h<;>(try (cases h;done))
 rename_i hkl;have hkl:ks.length=i.size:=by simpa using hkl
 obtain⟨hk1,hk2⟩:=Qld hks;simp only[qsI]at h;subst h;simp only[qbA,qdE]at hp;obtain⟨hp1,hp2,hfit⟩:=hp;have hsrc:=QWa (P:=P) (r:=r) (w:=w) hn hp2 hx htx hk2 hkl;have hold0:=Qiy (r:=r) (w:=w) ho hp1 (λid b h1 h2=>(hs id b h1 h2).1) hk1;obtain⟨n,g,p,use,ko⟩:=o;obtain⟨m,hh,q,use',kq⟩:=q;simp only at hsrc hold0 hfit ⊢
 have hnl:∀ y∈Q9 m (QY ks hh),y.length=i.size:=λy hy=>by
  obtain⟨j,hj,rfl⟩:=Wi hy;rw[QY,XZ];exact hkl
 have hnf:(Q9 m (QY ks hh)).all Jr=true:=by
  rw[List.all_eq_true];intro y hy;obtain⟨j,hj,rfl⟩:=Wi hy;exact VD _ _ _
 have closed:∀{l:List (List AV)},l.all Jr=true->l.all (AV.allL λj=>!inR nid j)=true:=by
  intro l hl;rw[List.all_eq_true]at hl ⊢;exact λy hy=>allL_mono (λ_ hf=>by cases hf) y (Xu (hl y hy))
 have joined:∀(r':Nat->Loc) (L:List (List AV)),L.length=n->(∀ i x,L[i]? = some x->AV.denL r' x=AV.denL r' (QY ks g i)) ->
   (L++Q9 m (QY ks hh)).length=n+m/\(∀ i x,(L++Q9 m (QY ks hh))[i]? = some x->AV.denL r' x=AV.denL r' (QY ks (KQ n g hh) i)):=by
  intro r' L hL hg;refine⟨by simp[hL,JV],λj y hy=>?_⟩
  rcases Nat.lt_or_ge j n with hj|hj
  .rw[List.getElem?_append_left (by omega)]at hy
   rw[hg j y hy];congr 1;exact ql ks 0 λb _=>by rw[X4,if_pos hj]
  .rw[List.getElem?_append_right (by omega),hL]at hy
   have hlt:=(List.getElem?_eq_some_iff.1 hy).1;rw[JV]at hlt;rw[YN hlt]at hy;simp only[qsI]at hy;subst hy;congr 1;exact ql ks 0 λb _=>by rw[X4,if_neg (by omega)]
 have hts:([t,tx]:List TypeId).toArray = #[t,tx]:=rfl;rw[hts]
 have none_:∀ base,n=0->s.den r = .slice base 0 0->m=0->(Builtin.append_ #[t,tx] ty #[s.den r,x.den r]).run P w = .ok (.slice base 0 0) w:=by
  intro base _ hden hm;subst hm;have hcl:=hsrc.cells;have hln:=hsrc.len w;have e0:AV.denL r (Q9 0 (QY ks hh)).flatten=[]:=rfl;rw[e0]at hcl;rw[hden];simp[Builtin.append_,run_underlying ht,run_underlying htx,sizeOf,typeInfo,hi,hln,hcl];cases base<;>simp[storeCells]
 have grow:∀(base:Option Addr) (L:List (List AV)) (cap:Nat),L.length=n->s.den r = .slice base n cap->(∀ y∈L,y.length=i.size)->L.all Jr=true->(∀ i x,L[i]? = some x->AV.denL r x=AV.denL r (QY ks g i))->cap<n+m ->
   (Builtin.firstCells i.size n (.slice base n cap)).run P w.drew = .ok (AV.denL r L.flatten).toArray w.drew ->
   ∃ w' r',(Builtin.append_ #[t,tx] ty #[s.den r,x.den r]).run P w = .ok ((AV.slz nid 0 (n+m) (.of 0)).den r') w'/\Qv lk r nid [(nid,.rowz true e ks (n+m) (KQ n g hh))] w r' w'/\∀ k,(r' nid).foot k->w.heap.size<=k:=by
  intro base L cap hL hden hLs hLf hg hcap hold;have hsrc':=hsrc;rw[<-JV m (QY ks hh)]at hsrc';have hrl:(Q9 (Q9 m (QY ks hh)).length (QY ks hh))=Q9 m (QY ks hh):=by rw[JV]
  rw[hrl]at hsrc'
  obtain⟨w',r',h1,h2,h3,h4,h5⟩:=QGH (P:=P) (lk:=lk) (r:=r) (nid:=nid) (w:=w) (t:=t) (tx:=tx) (ty:=ty) ht hi hz hzs (base:=base) (sLen:=n) (sCap:=cap) (olds:=L) (news:=Q9 m (QY ks hh)) hLs hnl hL hold hsrc'
   (closed (by rw[List.all_append,hLf,hnf];rfl)) (by rw[JV];exact hcap) (by rw[JV];exact hfit)
  have hg':∀ i x,L[i]? = some x->AV.denL r' x=AV.denL r' (QY ks g i):=by
   intro j y hy
   have hyf:AV.allL (λ_=>false) y=true:=by
    rw[List.all_eq_true]at hLf;exact Xu (hLf y (List.mem_of_getElem? hy))
   rw[denL_congr (p:=λ_=>false) (r:=r') (r':=r) (λ_ hf=>by cases hf) y hyf,denL_congr (p:=λ_=>false) (r:=r') (r':=r) (λ_ hf=>by cases hf) (QY ks g j) (Xu (l:=QY ks g j) (VD _ _ _))]
   exact hg j y hy
  obtain⟨j1,j2⟩:=joined r' L hL hg';rw[<-hkl]at h2;refine⟨w',r',?_,h2.toZ h4 h5 j1 j2,λk hk=>?_⟩
  .rw[hden,<-QZF h4,h1,JV]
  .rw[(h5 k).1 hk];exact h3
 have hgst:∀ id,use=true->idS s=[id]->QGE use s=[(id,.gone)]:=by
  intro id hu hid;rw[hu];simp only[QGE,hid,List.map_cons,List.map_nil]
 rcases hold0 with ⟨hu,hn0,base,hden⟩|⟨hu,id,b,hid,hsb,⟨hn0,hft,base,hden⟩|⟨L,cap,hL,hLg,hLf,hrep,hcap,hden,hft⟩⟩
 .
  have eg:QGE use s=[]:=by rw[hu];rfl
  rw[eg,List.nil_append]
  by_cases hm:m=0
  .refine⟨w,Qw r nid ⟨0,0,ks.length,0,true,base,λ_=>False⟩,?_,?_⟩
   .rw[none_ base hn0 hden hm,hn0,hm];simp[AV.den,Loc.base,Loc.room,Qw]
   .have e0:n+m=0:=by omega
    rw[e0];exact Qv.ghost QOf λk hk=>by simp[Qo,Qw]at hk
  .subst hn0
   obtain⟨w',r',h1,h2,_⟩:=grow base [] 0 rfl hden (by simp) rfl (by simp) (by omega) (by
    cases base with
    | none=>exact run_firstCells_none w.drew i.size 0 0 0
    | some a=>exact run_firstCells_some w.drew i.size 0 a 0 0 [] (by simp) (by simp))
   exact⟨w',r',h1,h2⟩
 .rw[hgst id hu hid];obtain⟨hb,hin,hlk⟩:=hs id b hid hsb
  by_cases hm:m=0
  .refine⟨w,Qw r nid ⟨0,0,ks.length,0,true,base,λ_=>False⟩,?_,?_⟩
   .rw[none_ base hn0 hden hm,hn0,hm];simp[AV.den,Loc.base,Loc.room,Qw]
   .have e0:n+m=0:=by omega
    rw[e0];exact Qv.moved hin (λj hj=>by unfold Qw;rw[if_neg (jQ hj)]) hlk QOf (Fr.refl w _) λk hk=>by simp[Qo,Qw]at hk
  .subst hn0
   obtain⟨w',r',h1,h2,h3⟩:=grow base [] 0 rfl hden (by simp) rfl (by simp) (by omega) (by
    cases base with
    | none=>exact run_firstCells_none w.drew i.size 0 0 0
    | some a=>exact run_firstCells_some w.drew i.size 0 a 0 0 [] (by simp) (by simp))
   refine⟨w',r',h1,Qv.moved hin h2.same hlk (h2.rep (nid,_) (by simp)) ⟨h2.fr.os,h2.fr.tape,h2.fr.output,h2.fr.size,h2.fr.drawn,λk hk _=>h2.fr.block k hk ?_⟩ (λk hk=>.inr (h3 k hk))⟩
   rintro⟨p,hpm,hin',_⟩;simp only[List.mem_singleton]at hpm;subst hpm;rw[Zu]at hin';cases hin'
 .rw[hgst id hu hid];obtain⟨hb,hin,hlk⟩:=hs id b hid hsb;have hLs:=hrep.2.2.1
  by_cases hroom:n+m<=cap
  .obtain⟨h1,h2⟩:=QDP hrep (news:=Q9 m (QY ks hh)) hnl (len:=L.length) (qlr _) (by rw[JV];omega)
   have hrun:=run_append_room_src (P:=P) w t tx ty e i ht hi (r id).blk 0 n cap (x.den r) _ _ hsrc hroom (λj hj=>by rw[Nat.zero_add,<-hL];exact(h2 j hj).1) (λj hj=>by rw[Nat.zero_add,<-hL];exact(h2 j hj).2)
   rw[Nat.zero_add]at hrun;rw[List.take_length,List.drop_of_length_le (by omega),List.append_nil,hL]at h1
   obtain⟨j1,j2⟩:=joined (Qw r nid { r id with cap:=cap,nil:=false,foot:=λk=>k=(r id).blk }) L hL (λj y hy=>by
     have hyf:AV.allL (λ_=>false) y=true:=by
      rw[List.all_eq_true]at hLf;exact Xu (hLf y (List.mem_of_getElem? hy))
     rw[denL_congr (p:=λ_=>false) (r':=r) (λ_ hf=>by cases hf) y hyf,denL_congr (p:=λ_=>false) (r':=r) (λ_ hf=>by cases hf) (QY ks g j) (Xu (l:=QY ks g j) (VD _ _ _))]
     exact hLg j y hy)
   refine⟨w.setCells (r id).blk (n*i.size) (AV.denL r (Q9 m (QY ks hh)).flatten),Qw r nid { r id with cap:=cap,nil:=false,foot:=λk=>k=(r id).blk },?_,?_⟩
   .rw[hden,hrun];simp[AV.den,Loc.base,Loc.room,Cap.den,Qw,hrep.1]
   .refine Qv.moved hin (λj hj=>by unfold Qw;rw[if_neg (jQ hj)]) hlk ?_ ?_ (λk hk=>.inl ((hft k).2 (by simpa[Qo,Qw]using hk)))
    .have hrl:QN (Qw r nid { r id with cap:=cap,nil:=false,foot:=λk=>k=(r id).blk }) nid (w.setCells (r id).blk (n*i.size) (AV.denL r (Q9 m (QY ks hh)).flatten)) (.rowl e ks.length (L++Q9 m (QY ks hh))):=by
      obtain⟨b1,b2,b3,b4,rest,b5,b6⟩:=h1;rw[hkl];refine⟨by simp[Qw,b1],by simp[Qw,b2],b3,by simp only[Qw,if_true];rw[j1];exact hroom,rest,?_,?_⟩
      .simp only[Qw,if_true];exact Nat.le_trans (Nat.mul_le_mul_right _ (Nat.sub_le_sub_right hcap _)) b5
      .have hall:(L++Q9 m (QY ks hh)).all Jr=true:=by rw[List.all_append,hLf,hnf];rfl
       have hcl:AV.allL (λ_=>false) (L++Q9 m (QY ks hh)).flatten=true:=by
        apply YG;rw[List.all_eq_true]at hall ⊢;exact λy hy=>Xu (hall y hy)
       rw[denL_congr (p:=λ_=>false) (r':=r) (λ_ hf=>by cases hf) _ hcl]
       simp only[Qw,if_true];exact b6
     exact QAz hrl (by simp[Qw]) (λk=>by simp[Qw]) j1 j2 (λi _=>VD _ _ _)
    .have:=QFd w (r id).blk (n*i.size) (AV.denL r (Q9 m (QY ks hh)).flatten);exact⟨this.os,this.tape,this.output,this.size,this.drawn,λk hk hc=>this.block k hk λe=>hc ((hft k).2 e)⟩
  .obtain⟨w',r',h1,h2,h3⟩:=grow _ L cap hL hden hLs hLf hLg (by omega) (by
    have hl:(AV.denL r L.flatten).length=n*i.size:=by rw[Kf,Y0 i.size L hLs,hL]
    obtain⟨b1,b2,b3,b4,rest,b5,b6⟩:=hrep
    exact run_firstCells_some w.drew i.size n _ n cap _ hl (λj u hu=>by
     rw[Ve,Nat.zero_add];show w.cell? _=_;rw[Yg b6,List.getElem?_append_left (List.getElem?_eq_some_iff.1 hu).1];exact hu))
   refine⟨w',r',h1,Qv.moved hin h2.same hlk (h2.rep (nid,_) (by simp)) ⟨h2.fr.os,h2.fr.tape,h2.fr.output,h2.fr.size,h2.fr.drawn,λk hk _=>h2.fr.block k hk ?_⟩ (λk hk=>.inr (h3 k hk))⟩
   rintro⟨p,hpm,hin',_⟩;simp only[List.mem_singleton]at hpm;subst hpm;rw[Zu]at hin';cases hin'
