/- - -/
import Derived.Test.YtekbmehgcofnkaaGreatMe
namespace Go.SX
open Go Go.RowKit Go.Proofs.YtekbmehgcofnkaaGreat
def KI:List (List AV)->Nat->Nat->Nat->Int
 | [],_,_,_=>0
 | [y],_,_,j=>qi y j
 | y::y'::ys,k,i,j=>cond (decide (i=k)) (qi y j) (KI (y'::ys) (k+1) i j)
def Q9(n:Nat)(g h:Nat->Nat->Int)(i j:Nat):Int:=match n with
 | 0=>h i j
 | n+1=>cond (decide (i<n+1)) (g i j) (h (i-(n+1)) j)
def kOf:AV->CK
 | .int _ k _ => .int k
 | _ => .bool
def ckB:CK->CK->Bool
 | .int k,.int k'=>k==k'
 | .bool,.bool=>true
 | _,_=>false
def ksB:List CK->List CK->Bool
 | [],[]=>true
 | k::ks,k'::ks'=>ckB k k'&&ksB ks ks'
 | _,_=>false
def XV:List (List AV)->Option (List CK)
 | []=>none
 | y::_=>some (y.map kOf)
structure Zr where
 n:Nat
 g:Nat->Nat->Int
 p:Bool
 use:Bool
 ks:Option (List CK)
def zP(ks:Option (List CK))(l:List (List AV)):Bool:=match ks with
 | some ks=>l.all (XN ks)
 | none=>true
def QIh(sz:Nat)(ty:TypeId):AV->Option Blk->Option Zr
 | .nils,none=>some ⟨0,λ_ _=>0,true,false,none⟩
 | .slz _ e len cp,some b=>(match cp with
  | .lit c=>(match Nat.beq c 0&&Nat.beq len 0 with
   | true=>some ⟨0,λ_ _=>0,true,false,none⟩
   | false=>none)
  | .of k=>(match Nat.beq e 0&&Nat.beq k 0 with
   | true=>(match b with
    | .rowz true ty' ks n g=>(match ks.length==sz&&ty'==ty with
     | true=>some ⟨len,g,decide (len<=n),true,some ks⟩
     | false=>none)
    | _=>none)
   | false=>none))
 | .slice _ _ e len cp,some b=>(match cp with
  | .of k=>(match Nat.beq e 0&&Nat.beq k 0 with
   | true=>(match b with
    | .rowl ty' z l=>(match z==sz&&ty'==ty&&decide (len<=l.length)&&zP (XV l) l with
     | true=>some ⟨len,KI l 0,true,true,XV l⟩
     | false=>none)
    | _=>none)
   | false=>none)
  | .lit c=>(match Nat.beq c 0&&Nat.beq len 0 with
   | true=>some ⟨0,λ_ _=>0,true,false,none⟩
   | false=>(match Nat.beq e 0 with
    | true=>(match b with
     | .rowl ty' z l=>(match z==sz&&ty'==ty&&decide (len<=l.length)&&decide (c<=l.length)&&zP (XV l) l with
      | true=>some ⟨len,KI l 0,true,true,XV l⟩
      | false=>none)
     | _=>none)
    | false=>none)))
 | _,_=>none
def QIH(sz:Nat):AV->Option Blk->Option Zr
 | .slz _ e m _,some (.rowz _ _ ks n g)=>match ks.length==sz with
  | true=>some ⟨m,λi=>g (i+e),decide (m+e<=n),false,some ks⟩
  | false=>none
 | .slz _ e m _,some (.frz ks n g)=>match ks.length==sz with
  | true=>some ⟨m,λi=>g (i+e),decide (m+e<=n),false,some ks⟩
  | false=>none
 | x,b=>match zN sz x b with
  | some news=>(match zP (XV news) news with
   | true=>some ⟨news.length,KI news 0,true,false,XV news⟩
   | false=>none)
  | none=>none
def idS:AV->List Nat
 | .slice _ id _ _ _=>[id]
 | .slz id _ _ _=>[id]
 | _=>[]
def QEa(use:Bool)(s:AV):List (Nat×Blk):=match use with
 | true=>(idS s).map λid=>(id,.gone)
 | false=>[]
def QHo:Option (List CK)->Option (List CK)->Option (List CK)
 | some a,some b=>match ksB a b with
  | true=>some a
  | false=>none
 | some a,none=>some a
 | none,some b=>some b
 | none,none=>none
def QHi(P:Program)(ts:List TypeId)(s x:AV)(sb xb:Option Blk)(nid:Nat):Option Eff:=
 match ts with
 | [t,tx]=>match P.underlying t,P.underlying tx with
  | some (.slice e),some (.slice _)=>match P.info? e with
   | some i=>match i.zero with
    | some z=>match z.cells.size==i.size with
     | true=>(match QIh i.size e s sb,QIH i.size x xb with
      | some o,some q=>(match QHo o.ks q.ks with
       | some ks=>(match ks.length==i.size with
        | true=>some ⟨false,o.p&&(q.p&&decide ((o.n+q.n+(o.n+q.n) / 4+192)*i.bytes<=281474976710656/\o.n+q.n<=9223372036854775807)),.slz nid 0 (o.n+q.n) (.of 0),QEa o.use s++[(nid,.rowz true e ks (o.n+q.n) (Q9 o.n o.g q.g))]⟩
        | false=>none)
       | none=>none)
      | _,_=>none)
     | false=>none
    | none=>none
   | none=>none
  | _,_=>none
 | _=>none
theorem Xf:∀{a b:List CK},ksB a b=true->a=b
 | [],[],_=>rfl
 | [],_::_,h=>by cases h
 | _::_,[],h=>by cases h
 | k::a,k'::b,h=>by
  simp only[ksB,qbA]at h;rw[Xf h.2];congr 1;have h1:=h.1;cases k<;>cases k'<;>simp only[ckB,Bool.false_eq_true]at h1
  .rw[beq_iff_eq.1 h1]
  .rfl
variable {ks:List CK}{l:List (List AV)}{r r':Nat->Loc}{w w':World}{ty:TypeId}{P:Program}{x s:AV}{lk:Nat->Option Blk}{nid n:Nat}{g:Nat->Nat->Int}
theorem QMg(r:Nat->Loc){y:List AV}(h:XN ks y=true):AV.denL r (cellsOf ks 0 (qi y))=AV.denL r y:=QIp r ks y 0 _ h (λi _=>by rw[Nat.zero_add])
theorem QCE(r:Nat->Loc){ks:List CK}:∀(l:List (List AV)) (k i:Nat) (x:List AV),l.all (XN ks)=true->l[i]? = some x->AV.denL r (cellsOf ks 0 (KI l k (k+i)))=AV.denL r x
 | [],_,i,x,_,h=>by simp at h
 | [y],k,i,x,ho,h=>by
  cases i with
  | zero=>
   simp only[List.getElem?_cons_zero,qsI]at h;subst h;exact QMg r (by simpa using ho)
  | succ i=>simp at h
 | y::y'::ys,k,i,x,ho,h=>by
  rw[List.all_cons,qbA]at ho;cases i with
  | zero=>
   simp only[List.getElem?_cons_zero,qsI]at h;subst h;rw[<-QMg r ho.1];congr 1;exact W5 ks 0 λj _=>by simp[KI]
  | succ i=>
   rw[<-QCE r (y'::ys) (k+1) i x ho.2 (by simpa using h)]
   congr 1
   exact W5 ks 0 λj _=>by
    rw[KI,decide_eq_false (by omega),cond_false,show k+(i+1)=k+1+i by omega]
theorem XP(n:Nat)(g h:Nat->Nat->Int)(i j:Nat):Q9 n g h i j=if i<n then g i j else h (i-n) j:=by
 cases n with
 | zero=>simp[Q9]
 | succ n=>
  simp only[Q9]
  by_cases hi:i<n+1
  .rw[qde hi,if_pos hi];rfl
  .rw[decide_eq_false hi,if_neg hi];rfl
theorem QIr(h:XV l=some ks)(ho:zP (XV l) l=true):l.all (XN ks)=true:=by rw[h]at ho;exact ho
theorem QSR(ho:zP (XV l) l=true):l.all JV=true:=by
 cases l with
 | nil=>rfl
 | cons y ys=>
  have h0:=QIr (ks:=y.map kOf) rfl ho;rw[List.all_eq_true]at h0 ⊢;intro x hx;have:=h0 x hx
  have key:∀(ks:List CK) (x:List AV),XN ks x=true->JV x=true:=by
   intro ks
   induction ks with
   | nil=>intro x h;cases x with
    | nil=>rfl
    | cons _ _=>cases h
   | cons k ks ih=>
    intro x h;cases x with
    | nil=>cases h
    | cons v x=>
     simp only[XN,qbA]at h;rw[JV,List.all_cons,qbA];refine⟨?_,ih x h.2⟩;have h1:=h.1;cases k<;>cases v<;>simp only[okC,Bool.false_eq_true]at h1<;>rfl
  exact key _ x this
theorem QBK{id:Nat}{z:Nat}(h:QL r id w (.rowl ty z l)){k:Nat}(hk:k<=l.length):QL r id w (.rowl ty z (l.take k)):=by
 obtain⟨h1,h2,h3,h4,rest,h5,h6⟩:=h;refine⟨h1,h2,λx hx=>h3 x (List.mem_of_mem_take hx),by simp;omega,AV.denL r (l.drop k).flatten++rest,?_,?_⟩
 .have e1:=Y8 z (l.drop k) (λx hx=>h3 x (List.mem_of_mem_drop hx));rw[List.length_append,KS,e1,List.length_drop,List.length_take,Nat.min_eq_left hk];have e2:(l.length-k)*z+((r id).cap-l.length)*z=((r id).cap-k)*z:=by rw[<-Nat.add_mul];congr 1;omega
  omega
 .rw[h6,<-List.append_assoc,<-Zx,<-List.flatten_append,List.take_append_drop]
theorem QaL{sz:Nat}{xb:Option Blk}{q:Zr}(hn:QIH sz x xb=some q)(hq:q.p=true)(hx:∀ id b,idS x=[id]->xb=some b->QL r id w b){tx e':TypeId}(hk:P.underlying tx=some (.slice e'))(hks:∀ a,q.ks=some a->a=ks)(hsz:ks.length=sz):
  Src P sz tx (x.den r) q.n (AV.denL r (Q5 q.n (QW ks q.g)).flatten) w:=by
 have core:∀(base:Option Addr) (m cap:Nat) (h:Nat->Nat->Int),(0<m->∃ b o,base=some ⟨b,o,none⟩/\∀ i,i<m->∀ j v,(QW ks h i)[j]? = some v->w.cell? ⟨b,o+i*sz+j,none⟩=some (v.den r)) ->
   Src P sz tx (.slice base m cap) m (AV.denL r (Q5 m (QW ks h)).flatten) w:=by
  intro base m cap h hcell
  have hsz':∀ y∈Q5 m (QW ks h),y.length=sz:=λy hy=>by
   obtain⟨i,hi,rfl⟩:=Wh hy;rw[QW,V0];exact hsz
  have h1:∀ u∈AV.denL r (Q5 m (QW ks h)).flatten,u.oneCell'=true:=by
   intro u hu;rw[Qp]at hu;obtain⟨v,hv,rfl⟩:=List.mem_map.1 hu;obtain⟨y,hy,hvy⟩:=List.mem_flatten.1 hv;obtain⟨i,hi,rfl⟩:=Wh hy;have:=J2 ks 0 (h i);simp only[JV,List.all_eq_true,qx,qbA]at this;exact QD1 r (this v hvy).1
  have hl:(AV.denL r (Q5 m (QW ks h)).flatten).length=m*sz:=by rw[KS,Y8 sz _ hsz',JI]
  by_cases hm:m=0
  .subst hm;cases base with
   | none=>exact Src.ofNil w hk cap
   | some a=>exact Src.ofSlice w hk a 0 cap _ hl (λj u hu=>by simp[Q5,AV.denL]at hu) h1
  .obtain⟨b,o,rfl,hc⟩:=hcell (by omega)
   refine Src.ofSlice w hk _ _ _ _ hl (λj u hu=>?_) h1;rw[Vc];rw[Qp,List.getElem?_map]at hu;obtain⟨v,hv,rfl⟩:=Option.map_eq_some_iff.1 hu;have hj:=(List.getElem?_eq_some_iff.1 hv).1;rw[Y8 sz _ hsz',JI]at hj
   have hs0 : 0 < sz := by rcases Nat.eq_zero_or_pos sz with e | e; · rw[e]at hj; omega
                           . exact e
   have hd:j / sz<m:=Nat.div_lt_of_lt_mul (by rw[Nat.mul_comm];exact hj)
   have hmod:=Nat.mod_lt j hs0;have he:j / sz*sz+j % sz=j:=by rw[Nat.mul_comm];exact Nat.div_add_mod j sz
   obtain⟨_,f2⟩:=Wp sz _ hsz' (j / sz) _ (Xs hd) (j % sz) hmod;rw[he]at f2;have:=hc (j / sz) hd (j % sz) v (by rw[<-f2,hv])
   rw[Nat.add_assoc,he]at this;exact this
 unfold QIH at hn;split at hn
 .rename_i id e mm cp o ty ks0 n get;split at hn<;>(try (cases hn;done))
  simp only[qsI]at hn;subst hn;simp only[qdE]at hq;have:=hks _ rfl;subst this;have hb:Ka r id w ty ks0.length n (QW ks0 get):=hx id _ rfl rfl;refine core _ _ _ _ λhm=>?_;have hnil:=Ha hb (by omega)
  refine⟨(r id).blk,(r id).off+e*(r id).esz,by simp[Loc.base,hnil],λi hi j v hv=>?_⟩
  have:=QDK hb (e:=i+e) (by omega) hv
  rw[<-hsz,hb.2.1,Nat.add_assoc (r id).off,<-Nat.add_mul,Nat.add_comm e i];exact this
 .rename_i id e mm cp ks0 n get;split at hn<;>(try (cases hn;done))
  simp only[qsI]at hn;subst hn;simp only[qdE]at hq;have:=hks _ rfl;subst this;have hb:=hx id _ rfl rfl;refine core _ _ _ _ λhm=>?_
  have hnil:(r id).nil=false:=by
   cases hh:(r id).nil with
   | false=>rfl
   | true=>have:=hb.2.2.1 hh;omega
  refine⟨(r id).blk,(r id).off+e*(r id).esz,by simp[Loc.base,hnil],λi hi j v hv=>?_⟩
  have:=((hb.2.2.2 (i+e) (by omega)).2.2 j v hv).2
  rw[<-hsz,hb.1,Nat.add_assoc (r id).off,<-Nat.add_mul,Nat.add_comm e i];exact this
 .split at hn<;>(try (cases hn;done))
  rename_i news hnews;split at hn<;>(try (cases hn;done))
  rename_i hfl;simp only[qsI]at hn;subst hn;obtain⟨hR,hxk⟩:=QDF (r:=r) (w:=w) hnews (λc id e n cp b' hxe hb=>hx id b' (by rw[hxe];rfl) hb)
  have hat:news.all (λy=>y.all AV.atom)=true:=by
   have hfl:=QSR hfl;rw[List.all_eq_true]at hfl ⊢;intro y hy;have:=hfl y hy;simp only[JV,List.all_eq_true,qx,qbA]at this ⊢;exact λv hv=>(this v hv).1
  have hsrc:=QF4 (P:=P) hR hxk hk hat
  have hcg:AV.denL r news.flatten=AV.denL r (Q5 news.length (QW ks (KI news 0))).flatten:=by
   cases hkn:XV news with
   | none=>
    cases news with
    | nil=>rfl
    | cons _ _=>cases hkn
   | some a=>
    have:=hks a (by simp only;exact hkn)
    subst this;have hall:=QIr hkn hfl;apply QDi;apply List.ext_getElem?;intro i;rw[List.getElem?_map,List.getElem?_map];rcases Nat.lt_or_ge i news.length with hi|hi
    .rw[Xs hi,List.getElem?_eq_getElem hi];have:=QCE r news 0 i _ hall (List.getElem?_eq_getElem hi);rw[Nat.zero_add]at this;simp only[Option.map_some,QW,this]
    .rw[List.getElem?_eq_none hi,List.getElem?_eq_none (by rw[JI];exact hi)]
  exact hcg ▸ hsrc
theorem QgD{sz:Nat}{sb:Option Blk}{o:Zr}(h:QIh sz ty s sb=some o)(hp:o.p=true)(hs:∀ id b,idS s=[id]->sb=some b->QL r id w b)(hks:∀ a,o.ks=some a->a=ks):
  (o.use=false/\o.n=0/\∃ base,s.den r = .slice base 0 0) ∨
  (o.use=true/\∃ id b,idS s=[id]/\sb=some b/\((o.n=0/\(∀ k,¬ Qc r id b k)/\∃ base,s.den r = .slice base 0 0) ∨
   ∃ L cap,L.length=o.n/\(∀ i x,L[i]? = some x->AV.denL r x=AV.denL r (QW ks o.g i))/\L.all JV=true/\QL r id w (.rowl ty sz L)/\cap<=(r id).cap/\s.den r = .slice (some ⟨(r id).blk,0,none⟩) o.n cap/\∀ k,Qc r id b k↔k=(r id).blk)):=by
 have ofRows:∀(l:List (List AV)) (len:Nat),len<=l.length->zP (XV l) l=true->(∀ a,XV l=some a->a=ks)->(∀ i x,(l.take len)[i]? = some x->AV.denL r x=AV.denL r (QW ks (KI l 0) i))/\(l.take len).all JV=true/\(l.take len).length=len:=by
  intro l len hle hfl hkl;refine⟨λi x hx=>?_,?_,by simp;omega⟩
  .have hi:=(List.getElem?_eq_some_iff.1 hx).1;rw[List.getElem?_take_of_lt (by simp at hi;omega)]at hx
   cases hkn:XV l with
   | none=>
    cases l with
    | nil=>simp at hx
    | cons _ _=>cases hkn
   | some a=>
    have:=hkl a hkn;subst this;have:=QCE r l 0 i x (QIr hkn hfl) hx;rw[Nat.zero_add]at this;exact this.symm
  .have hfl:=QSR hfl;rw[List.all_eq_true]at hfl ⊢;exact λy hy=>hfl y (List.mem_of_mem_take hy)
 unfold QIh at h;split at h
 .simp only[qsI]at h;subst h;exact .inl ⟨rfl,rfl,none,rfl⟩
 .rename_i id e len cp b;cases cp with
  | lit c=>
   simp only at h;split at h<;>(try (cases h;done))
   rename_i hc;simp only[qbA]at hc;have c0:=qnb hc.1;have l0:=qnb hc.2;subst c0;subst l0;simp only[qsI]at h;subst h;refine .inl ⟨rfl,rfl,(r id).base e,?_⟩;simp only[AV.den,Cap.den,Loc.room];cases (r id).nil<;>rfl
  | of k=>
   simp only at h;split at h<;>(try (cases h;done))
   rename_i hc;simp only[qbA]at hc;have e0:=qnb hc.1;have k0:=qnb hc.2;subst e0;subst k0;split at h<;>(try (cases h;done))
   rename_i ty' ks0 nn get;split at h<;>(try (cases h;done))
   rename_i hc;simp only[qbA,beq_iff_eq]at hc;obtain⟨rfl,rfl⟩:=hc;simp only[qsI]at h;subst h;simp only[qdE]at hp;have:=hks _ rfl;subst this;have hb:Ka r id w ty' ks0.length nn (QW ks0 get):=hs id _ rfl rfl;refine .inr ⟨rfl,id,_,rfl,rfl,?_⟩;cases hnil:(r id).nil with
   | true=>
    have:=hb.2.2.2.1 hnil;refine .inl ⟨by simp only;omega,λk hk=>?_,(r id).nb,?_⟩
    .have:=((hb.2.2.1 k).1 hk).1;rw[hnil]at this;cases this
    .have e0:len=0:=by omega
     subst e0;simp only[AV.den,Loc.base,Loc.room,hnil]
   | false=>
    have hrow:=QBK (QA1 hb hnil) (k:=len) (by rw[JI];exact hp)
    have hfl:=hb.2.2.2.2.1;refine .inr ⟨(Q5 nn (QW ks0 get)).take len,(r id).cap,by simp[JI];omega,λi x hx=>?_,?_,hrow,qlr _,?_,λk=>?_⟩
    .have hi:=(List.getElem?_eq_some_iff.1 hx).1;simp only[List.length_take,JI]at hi;rw[List.getElem?_take_of_lt (by omega),Xs (by omega)]at hx
     simp only[qsI]at hx;subst hx;rfl
    .rw[List.all_eq_true];intro y hy;obtain⟨i,hi,rfl⟩:=Wh (List.mem_of_mem_take hy);exact(hfl i hi).2
    .simp only[AV.den,Loc.base,Loc.room,hnil,Cap.den,hb.1,Nat.zero_mul,Nat.zero_add,Nat.sub_zero]
    .refine(hb.2.2.1 k).trans ?_;rw[hnil];simp
 .rename_i c id e len cp b;cases cp with
  | of k=>
   simp only at h;split at h<;>(try (cases h;done))
   rename_i hc;simp only[qbA]at hc;have e0:=qnb hc.1;have k0:=qnb hc.2;subst e0;subst k0;split at h<;>(try (cases h;done))
   rename_i ty' z l;split at h<;>(try (cases h;done))
   rename_i hc;simp only[qbA,beq_iff_eq,qdE]at hc;obtain⟨⟨⟨rfl,rfl⟩,hle⟩,hfl⟩:=hc;simp only[qsI]at h;subst h;have hb:=hs id _ rfl rfl;obtain⟨o1,o3,o4⟩:=ofRows l len hle hfl hks;refine .inr ⟨rfl,id,_,rfl,rfl,.inr ⟨l.take len,(r id).cap,o4,o1,o3,QBK hb hle,qlr _,?_,λk=>Iff.rfl⟩⟩;simp only[AV.den,Cap.den,hb.1,Nat.zero_mul,Nat.zero_add,Nat.sub_zero]
  | lit cp=>
   simp only at h;split at h
   .rename_i hc;simp only[qbA]at hc;have c0:=qnb hc.1;have l0:=qnb hc.2;subst c0;subst l0;simp only[qsI]at h;subst h;exact .inl ⟨rfl,rfl,_,rfl⟩
   .split at h<;>(try (cases h;done))
    rename_i hc;have e0:=qnb hc;subst e0;split at h<;>(try (cases h;done))
    rename_i ty' z l;split at h<;>(try (cases h;done))
    rename_i hc;simp only[qbA,beq_iff_eq,qdE]at hc;obtain⟨⟨⟨⟨rfl,rfl⟩,hle⟩,hcp⟩,hfl⟩:=hc;simp only[qsI]at h;subst h;have hb:=hs id _ rfl rfl;obtain⟨o1,o3,o4⟩:=ofRows l len hle hfl hks;refine .inr ⟨rfl,id,_,rfl,rfl,.inr ⟨l.take len,cp,o4,o1,o3,QBK hb hle,Nat.le_trans hcp hb.2.2.2.1,?_,λk=>Iff.rfl⟩⟩;simp only[AV.den,Cap.den,hb.1,Nat.zero_mul,Nat.zero_add]
 .cases h
theorem Qi.toZ(h:Qi lk r nid [(nid,.rowl ty ks.length l)] w r' w')(hn:(r' nid).nil=false)(hf:∀ k,(r' nid).foot k↔k=(r' nid).blk)(hl:l.length=n)(hg:∀ i x,l[i]? = some x->AV.denL r' x=AV.denL r' (QW ks g i)):Qi lk r nid [(nid,.rowz true ty ks n g)] w r' w':=by
 have hr:QL r' nid w' (.rowz true ty ks n g):=H9 (h.rep (nid,.rowl ty ks.length l) (by simp)) hn hf hl hg (λi _=>J2 _ _ _)
 refine⟨h.same,λp hp=>?_,⟨h.fr.os,h.fr.tape,h.fr.output,h.fr.size,h.fr.drawn,λk hk hc=>h.fr.block k hk ?_⟩,λp hp hin hlv k hk=>?_,λp hp hin=>?_,λp hp q hq _ _ hne=>?_⟩
 .simp only[List.mem_singleton]at hp;subst hp;exact hr
 .rintro⟨p,hp,hin,_⟩;simp only[List.mem_singleton]at hp;subst hp;rw[XA]at hin;cases hin
 .simp only[List.mem_singleton]at hp;subst hp;have:=h.new (nid,.rowl ty ks.length l) (by simp) hin rfl k ((hf k).1 hk)
  rcases this with h1|⟨q,hq,h1,_⟩|⟨h1,_⟩
  .exact .inl h1
  .simp only[List.mem_singleton]at hq;subst hq;rw[XA]at h1;cases h1
  .cases h1
 .simp only[List.mem_singleton]at hp;subst hp;rw[XA]at hin;cases hin
 .simp only[List.mem_singleton]at hp hq;subst hp;subst hq;exact absurd rfl hne
theorem Qi.ghost{l:Loc}{b:Blk}(hb:QL (Qk r nid l) nid w b)(hf:∀ k,¬ Qc (Qk r nid l) nid b k):Qi lk r nid [(nid,b)] w (Qk r nid l) w:=by
 refine⟨λid h=>by unfold Qk;rw[if_neg (ZP h)],λp hp=>?_,Fr.refl w _,λp hp hin hlv k hk=>?_,λp hp hin=>?_,λp hp q hq _ _ hne=>?_⟩
 .simp only[List.mem_singleton]at hp;subst hp;exact hb
 .simp only[List.mem_singleton]at hp;subst hp;exact absurd hk (hf k)
 .simp only[List.mem_singleton]at hp;subst hp;rw[XA]at hin;cases hin
 .simp only[List.mem_singleton]at hp hq;subst hp;subst hq;exact absurd rfl hne
theorem Qbq{id n:Nat}(hn:(r id).nil=false):(AV.slice true id 0 n (.of 0)).den r=(AV.slz id 0 n (.of 0)).den r:=by
 simp only[AV.den,Loc.base,Loc.room,hn]
theorem QKR{base:Option Addr}{e:TypeId}:QL (Qk r nid ⟨0,0,ks.length,0,true,base,λ_=>False⟩) nid w (.rowz true e ks 0 g):=by
 simp only[QL,Ka,Qk,if_true];refine⟨trivial,trivial,λk=>?_,λ_=>trivial,λi hi=>by omega,λh=>by cases h⟩
 simp
theorem QWi{a b:Option (List CK)}(h:QHo a b=some ks):(∀ x,a=some x->x=ks)/\∀ x,b=some x->x=ks:=by
 unfold QHo at h;split at h
 .split at h<;>(try (cases h;done))
  rename_i hb;have:=Xf hb;simp only[qsI]at h;subst h;subst this;exact⟨λx hx=>by simpa using hx.symm,λx hx=>by simpa using hx.symm⟩
 .simp only[qsI]at h;subst h;exact⟨λx hx=>by simpa using hx.symm,λx hx=>by cases hx⟩
 .simp only[qsI]at h;subst h;exact⟨λx hx=>(by cases hx),λx hx=>by simpa using hx.symm⟩
 .cases h
theorem QhG{ts:List TypeId}{sb xb:Option Blk}{eff:Eff}(h:QHi P ts s x sb xb nid=some eff)(hp:eff.pre=true)(hs:∀ id b,idS s=[id]->sb=some b->QL r id w b/\inR nid id=false/\lk id=some b)(hx:∀ id b,idS x=[id]->xb=some b->QL r id w b)(ty:TypeId):
  ∃ w' r',(Builtin.append_ ts.toArray ty #[s.den r,x.den r]).run P w = .ok (eff.val.den r') w'/\Qi lk r nid eff.upd w r' w':=by
 unfold QHi at h;split at h<;>(try (cases h;done))
 rename_i t tx;split at h<;>(try (cases h;done))
 rename_i e e' ht htx;split at h<;>(try (cases h;done))
 rename_i i hi;split at h<;>(try (cases h;done))
 rename_i z hz;split at h<;>(try (cases h;done))
 rename_i hzs;have hzs:z.cells.size=i.size:=by simpa using hzs
 split at h<;>(try (cases h;done))
 rename_i o q ho hn;split at h<;>(try (cases h;done))
 rename_i ks hks;split at h<;>(try (cases h;done))
 rename_i hkl;have hkl:ks.length=i.size:=by simpa using hkl
 obtain⟨hk1,hk2⟩:=QWi hks;simp only[qsI]at h;subst h;simp only[qbA,qdE]at hp;obtain⟨hp1,hp2,hfit⟩:=hp;have hsrc:=QaL (P:=P) (r:=r) (w:=w) hn hp2 hx htx hk2 hkl;have hold0:=QgD (r:=r) (w:=w) ho hp1 (λid b h1 h2=>(hs id b h1 h2).1) hk1;obtain⟨n,g,p,use,ko⟩:=o;obtain⟨m,hh,q,use',kq⟩:=q;simp only at hsrc hold0 hfit ⊢
 have hnl:∀ y∈Q5 m (QW ks hh),y.length=i.size:=λy hy=>by
  obtain⟨j,hj,rfl⟩:=Wh hy;rw[QW,V0];exact hkl
 have hnf:(Q5 m (QW ks hh)).all JV=true:=by
  rw[List.all_eq_true];intro y hy;obtain⟨j,hj,rfl⟩:=Wh hy;exact J2 _ _ _
 have closed:∀{l:List (List AV)},l.all JV=true->l.all (AV.allL λj=>!inR nid j)=true:=by
  intro l hl;rw[List.all_eq_true]at hl ⊢;exact λy hy=>allL_mono (λ_ hf=>by cases hf) y (YQ (hl y hy))
 have joined:∀(r':Nat->Loc) (L:List (List AV)),L.length=n->(∀ i x,L[i]? = some x->AV.denL r' x=AV.denL r' (QW ks g i)) ->
   (L++Q5 m (QW ks hh)).length=n+m/\(∀ i x,(L++Q5 m (QW ks hh))[i]? = some x->AV.denL r' x=AV.denL r' (QW ks (Q9 n g hh) i)):=by
  intro r' L hL hg;refine⟨by simp[hL,JI],λj y hy=>?_⟩
  rcases Nat.lt_or_ge j n with hj|hj
  .rw[List.getElem?_append_left (by omega)]at hy
   rw[hg j y hy];congr 1;exact W5 ks 0 λb _=>by rw[XP,if_pos hj]
  .rw[List.getElem?_append_right (by omega),hL]at hy
   have hlt:=(List.getElem?_eq_some_iff.1 hy).1;rw[JI]at hlt;rw[Xs hlt]at hy;simp only[qsI]at hy;subst hy;congr 1;exact W5 ks 0 λb _=>by rw[XP,if_neg (by omega)]
 have hts:([t,tx]:List TypeId).toArray = #[t,tx]:=rfl;rw[hts]
 have none_:∀ base,n=0->s.den r = .slice base 0 0->m=0->(Builtin.append_ #[t,tx] ty #[s.den r,x.den r]).run P w = .ok (.slice base 0 0) w:=by
  intro base _ hden hm;subst hm;have hcl:=hsrc.cells;have hln:=hsrc.len w;have e0:AV.denL r (Q5 0 (QW ks hh)).flatten=[]:=rfl;rw[e0]at hcl;rw[hden];simp[Builtin.append_,run_underlying ht,run_underlying htx,sizeOf,typeInfo,hi,hln,hcl];cases base<;>simp[storeCells]
 have grow:∀(base:Option Addr) (L:List (List AV)) (cap:Nat),L.length=n->s.den r = .slice base n cap->(∀ y∈L,y.length=i.size)->L.all JV=true->(∀ i x,L[i]? = some x->AV.denL r x=AV.denL r (QW ks g i))->cap<n+m ->
   (Builtin.firstCells i.size n (.slice base n cap)).run P w.drew = .ok (AV.denL r L.flatten).toArray w.drew ->
   ∃ w' r',(Builtin.append_ #[t,tx] ty #[s.den r,x.den r]).run P w = .ok ((AV.slz nid 0 (n+m) (.of 0)).den r') w'/\Qi lk r nid [(nid,.rowz true e ks (n+m) (Q9 n g hh))] w r' w'/\∀ k,(r' nid).foot k->w.heap.size<=k:=by
  intro base L cap hL hden hLs hLf hg hcap hold;have hsrc':=hsrc;rw[<-JI m (QW ks hh)]at hsrc';have hrl:(Q5 (Q5 m (QW ks hh)).length (QW ks hh))=Q5 m (QW ks hh):=by rw[JI]
  rw[hrl]at hsrc'
  obtain⟨w',r',h1,h2,h3,h4,h5⟩:=QA2 (P:=P) (lk:=lk) (r:=r) (nid:=nid) (w:=w) (t:=t) (tx:=tx) (ty:=ty) ht hi hz hzs (base:=base) (sLen:=n) (sCap:=cap) (olds:=L) (news:=Q5 m (QW ks hh)) hLs hnl hL hold hsrc'
   (closed (by rw[List.all_append,hLf,hnf];rfl)) (by rw[JI];exact hcap) (by rw[JI];exact hfit)
  have hg':∀ i x,L[i]? = some x->AV.denL r' x=AV.denL r' (QW ks g i):=by
   intro j y hy
   have hyf:AV.allL (λ_=>false) y=true:=by
    rw[List.all_eq_true]at hLf;exact YQ (hLf y (List.mem_of_getElem? hy))
   rw[denL_congr (p:=λ_=>false) (r:=r') (r':=r) (λ_ hf=>by cases hf) y hyf,denL_congr (p:=λ_=>false) (r:=r') (r':=r) (λ_ hf=>by cases hf) (QW ks g j) (YQ (l:=QW ks g j) (J2 _ _ _))]
   exact hg j y hy
  obtain⟨j1,j2⟩:=joined r' L hL hg';rw[<-hkl]at h2;refine⟨w',r',?_,h2.toZ h4 h5 j1 j2,λk hk=>?_⟩
  .rw[hden,<-Qbq h4,h1,JI]
  .rw[(h5 k).1 hk];exact h3
 have hgst:∀ id,use=true->idS s=[id]->QEa use s=[(id,.gone)]:=by
  intro id hu hid;rw[hu];simp only[QEa,hid,List.map_cons,List.map_nil]
 rcases hold0 with ⟨hu,hn0,base,hden⟩|⟨hu,id,b,hid,hsb,⟨hn0,hft,base,hden⟩|⟨L,cap,hL,hLg,hLf,hrep,hcap,hden,hft⟩⟩
 .
  have eg:QEa use s=[]:=by rw[hu];rfl
  rw[eg,List.nil_append]
  by_cases hm:m=0
  .refine⟨w,Qk r nid ⟨0,0,ks.length,0,true,base,λ_=>False⟩,?_,?_⟩
   .rw[none_ base hn0 hden hm,hn0,hm];simp[AV.den,Loc.base,Loc.room,Qk]
   .have e0:n+m=0:=by omega
    rw[e0];exact Qi.ghost QKR λk hk=>by simp[Qc,Qk]at hk
  .subst hn0
   obtain⟨w',r',h1,h2,_⟩:=grow base [] 0 rfl hden (by simp) rfl (by simp) (by omega) (by
    cases base with
    | none=>exact run_firstCells_none w.drew i.size 0 0 0
    | some a=>exact run_firstCells_some w.drew i.size 0 a 0 0 [] (by simp) (by simp))
   exact⟨w',r',h1,h2⟩
 .rw[hgst id hu hid];obtain⟨hb,hin,hlk⟩:=hs id b hid hsb
  by_cases hm:m=0
  .refine⟨w,Qk r nid ⟨0,0,ks.length,0,true,base,λ_=>False⟩,?_,?_⟩
   .rw[none_ base hn0 hden hm,hn0,hm];simp[AV.den,Loc.base,Loc.room,Qk]
   .have e0:n+m=0:=by omega
    rw[e0];exact Qi.moved hin (λj hj=>by unfold Qk;rw[if_neg (ZP hj)]) hlk QKR (Fr.refl w _) λk hk=>by simp[Qc,Qk]at hk
  .subst hn0
   obtain⟨w',r',h1,h2,h3⟩:=grow base [] 0 rfl hden (by simp) rfl (by simp) (by omega) (by
    cases base with
    | none=>exact run_firstCells_none w.drew i.size 0 0 0
    | some a=>exact run_firstCells_some w.drew i.size 0 a 0 0 [] (by simp) (by simp))
   refine⟨w',r',h1,Qi.moved hin h2.same hlk (h2.rep (nid,_) (by simp)) ⟨h2.fr.os,h2.fr.tape,h2.fr.output,h2.fr.size,h2.fr.drawn,λk hk _=>h2.fr.block k hk ?_⟩ (λk hk=>.inr (h3 k hk))⟩
   rintro⟨p,hpm,hin',_⟩;simp only[List.mem_singleton]at hpm;subst hpm;rw[XA]at hin';cases hin'
 .rw[hgst id hu hid];obtain⟨hb,hin,hlk⟩:=hs id b hid hsb;have hLs:=hrep.2.2.1
  by_cases hroom:n+m<=cap
  .obtain⟨h1,h2⟩:=QAG hrep (news:=Q5 m (QW ks hh)) hnl (len:=L.length) (qlr _) (by rw[JI];omega)
   have hrun:=run_append_room_src (P:=P) w t tx ty e i ht hi (r id).blk 0 n cap (x.den r) _ _ hsrc hroom (λj hj=>by rw[Nat.zero_add,<-hL];exact(h2 j hj).1) (λj hj=>by rw[Nat.zero_add,<-hL];exact(h2 j hj).2)
   rw[Nat.zero_add]at hrun;rw[List.take_length,List.drop_of_length_le (by omega),List.append_nil,hL]at h1
   obtain⟨j1,j2⟩:=joined (Qk r nid { r id with cap:=cap,nil:=false,foot:=λk=>k=(r id).blk }) L hL (λj y hy=>by
     have hyf:AV.allL (λ_=>false) y=true:=by
      rw[List.all_eq_true]at hLf;exact YQ (hLf y (List.mem_of_getElem? hy))
     rw[denL_congr (p:=λ_=>false) (r':=r) (λ_ hf=>by cases hf) y hyf,denL_congr (p:=λ_=>false) (r':=r) (λ_ hf=>by cases hf) (QW ks g j) (YQ (l:=QW ks g j) (J2 _ _ _))]
     exact hLg j y hy)
   refine⟨w.setCells (r id).blk (n*i.size) (AV.denL r (Q5 m (QW ks hh)).flatten),Qk r nid { r id with cap:=cap,nil:=false,foot:=λk=>k=(r id).blk },?_,?_⟩
   .rw[hden,hrun];simp[AV.den,Loc.base,Loc.room,Cap.den,Qk,hrep.1]
   .refine Qi.moved hin (λj hj=>by unfold Qk;rw[if_neg (ZP hj)]) hlk ?_ ?_ (λk hk=>.inl ((hft k).2 (by simpa[Qc,Qk]using hk)))
    .have hrl:QL (Qk r nid { r id with cap:=cap,nil:=false,foot:=λk=>k=(r id).blk }) nid (w.setCells (r id).blk (n*i.size) (AV.denL r (Q5 m (QW ks hh)).flatten)) (.rowl e ks.length (L++Q5 m (QW ks hh))):=by
      obtain⟨b1,b2,b3,b4,rest,b5,b6⟩:=h1;rw[hkl];refine⟨by simp[Qk,b1],by simp[Qk,b2],b3,by simp only[Qk,if_true];rw[j1];exact hroom,rest,?_,?_⟩
      .simp only[Qk,if_true];exact Nat.le_trans (Nat.mul_le_mul_right _ (Nat.sub_le_sub_right hcap _)) b5
      .have hall:(L++Q5 m (QW ks hh)).all JV=true:=by rw[List.all_append,hLf,hnf];rfl
       have hcl:AV.allL (λ_=>false) (L++Q5 m (QW ks hh)).flatten=true:=by
        apply Xl;rw[List.all_eq_true]at hall ⊢;exact λy hy=>YQ (hall y hy)
       rw[denL_congr (p:=λ_=>false) (r':=r) (λ_ hf=>by cases hf) _ hcl]
       simp only[Qk,if_true];exact b6
     exact H9 hrl (by simp[Qk]) (λk=>by simp[Qk]) j1 j2 (λi _=>J2 _ _ _)
    .have:=QAD w (r id).blk (n*i.size) (AV.denL r (Q5 m (QW ks hh)).flatten);exact⟨this.os,this.tape,this.output,this.size,this.drawn,λk hk hc=>this.block k hk λe=>hc ((hft k).2 e)⟩
  .obtain⟨w',r',h1,h2,h3⟩:=grow _ L cap hL hden hLs hLf hLg (by omega) (by
    have hl:(AV.denL r L.flatten).length=n*i.size:=by rw[KS,Y8 i.size L hLs,hL]
    obtain⟨b1,b2,b3,b4,rest,b5,b6⟩:=hrep
    exact run_firstCells_some w.drew i.size n _ n cap _ hl (λj u hu=>by
     rw[Vc,Nat.zero_add];show w.cell? _=_;rw[XB b6,List.getElem?_append_left (List.getElem?_eq_some_iff.1 hu).1];exact hu))
   refine⟨w',r',h1,Qi.moved hin h2.same hlk (h2.rep (nid,_) (by simp)) ⟨h2.fr.os,h2.fr.tape,h2.fr.output,h2.fr.size,h2.fr.drawn,λk hk _=>h2.fr.block k hk ?_⟩ (λk hk=>.inr (h3 k hk))⟩
   rintro⟨p,hpm,hin',_⟩;simp only[List.mem_singleton]at hpm;subst hpm;rw[XA]at hin';cases hin'
def QBE:List Nat->List Blk->Nat->Option Blk
 | i::l,b::bs,j=>match Nat.beq i j with
  | true=>some b
  | false=>QBE l bs j
 | _,_,_=>none
def QEB(h:List Nat×List Blk)(j:Nat):Option Blk:=QBE h.1 h.2 j
theorem QG5{lk:Nat->Option Blk}:∀{l:List Nat} {bs:List Blk},l.map lk=bs.map some->∀{j b},QBE l bs j=some b->lk j=some b
 | [],[],_,_,_,h=>by cases h
 | [],_::_,_,_,_,h=>by cases h
 | _::_,[],_,_,_,h=>by cases h
 | i::l,b::bs,e,j,b',h=>by
  simp only[List.map_cons,List.cons.injEq]at e;simp only[QBE]at h;split at h
  .rename_i hb;have:=qnb hb;subst this;simp only[qsI]at h;subst h;exact e.1
  .exact QG5 e.2 h
def vA(n:Nat)(ln:Nat->Nat)(m i:Nat):Nat:=match Nat.blt i n with
 | true=>ln i
 | false=>m
def QBl(n:Nat)(g:Nat->Nat->Nat->Int)(h:Nat->Nat->Int)(i:Nat):Nat->Nat->Int:=match Nat.blt i n with
 | true=>g i
 | false=>h
theorem QEY{i:Nat}(h:i<n):Nat.blt i n=true:=by rw[Nat.blt_eq];exact h
theorem QAJ{i:Nat}(h:¬ i<n):Nat.blt i n=false:=by
 cases hb:Nat.blt i n with
 | false=>rfl
 | true=>rw[Nat.blt_eq]at hb;exact absurd hb h
structure Zf where
 n:Nat
 ln:Nat->Nat
 g:Nat->Nat->Nat->Int
 p:Bool
 use:List Nat
 ks:Option (List CK)
def QPl(e:TypeId)(s:AV)(h:List Nat×List Blk):Option Zf:=match s with
 | .nils=>some ⟨0,λ_=>0,λ_ _ _=>0,true,[],none⟩
 | .slz id i len (.of k)=>(match Nat.beq i 0&&Nat.beq k 0,QEB h id with
  | true,some (.frz2 true ty ks n ln g)=>(match Nat.beq ty e with
   | true=>some ⟨n,ln,g,decide (len=n),[id],some ks⟩
   | false=>none)
  | _,_=>none)
 | _=>none
structure Zn where
 id:Nat
 m:Nat
 ks:List CK
 g:Nat->Nat->Int
 p:Bool
def QQa(x:AV)(h:List Nat×List Blk):Option Zn:=match x with
 | .slice _ id _ _ _=>(match QEB h id with
  | some b=>(match zN 1 x (some b)with
   | some [[.slz ib i m (.of k)]]=>(match Nat.beq i 0&&Nat.beq k 0,QEB h ib with
    | true,some (.rowz true _ ks n g)=>some ⟨ib,m,ks,g,decide (m<=n)⟩
    | _,_=>none)
   | _=>none)
  | none=>none)
 | _=>none
def QYG(a:Option (List CK))(b:List CK):Bool:=match a with
 | some a=>ksB a b
 | none=>true
def QGN(P:Program)(ts:List TypeId)(s x:AV)(nid:Nat)(h:List Nat×List Blk):Option Eff:=
 match ts with
 | [t,tx]=>match P.underlying t,P.underlying tx with
  | some (.slice e),some (.slice _)=>match P.info? e with
   | some i=>match i.zero with
    | some z=>match Nat.beq z.cells.size i.size&&Nat.beq i.size 1 with
     | true=>(match QPl e s h,QQa x h with
      | some o,some q=>(match QYG o.ks q.ks with
       | true=>some ⟨false,o.p&&(q.p&&decide ((o.n+1+(o.n+1) / 4+192)*i.bytes<=281474976710656/\o.n+1<=9223372036854775807)),.slz nid 0 (o.n+1) (.of 0),(o.use++[q.id]).map (λi=>(i,.gone))++[(nid,.frz2 true e q.ks (o.n+1) (vA o.n o.ln q.m) (QBl o.n o.g q.g))]⟩
       | false=>none)
      | _,_=>none)
     | false=>none
    | none=>none
   | none=>none
  | _,_=>none
 | _=>none
theorem Qi.movedL{gs:List Nat}{b:Blk}(hid:∀ i∈gs,inR nid i=false)(hr:∀ i,inR nid i=false->r' i=r i)(hb:QL r' nid w' b)(hf:Fr w w' (λk=>∃ i∈gs,∃ b0,lk i=some b0/\Qc r i b0 k))(hn:∀ k,Qc r' nid b k->(∃ i∈gs,∃ b0,lk i=some b0/\Qc r i b0 k)∨w.heap.size<=k):
  Qi lk r nid (gs.map (λi=>(i,.gone))++[(nid,b)]) w r' w':=by
 have mem:∀ p,p∈gs.map (λi=>(i,Blk.gone))++[(nid,b)]->(∃ i∈gs,p=(i,.gone))∨p=(nid,b):=by
  intro p hp;rcases List.mem_append.1 hp with hp|hp
  .obtain⟨i,hi,rfl⟩:=List.mem_map.1 hp;exact .inl ⟨i,hi,rfl⟩
  .simp only[List.mem_singleton]at hp;exact .inr hp
 have gm:∀ i∈gs,(i,Blk.gone)∈gs.map (λi=>(i,Blk.gone))++[(nid,b)]:=λi hi=>List.mem_append_left _ (List.mem_map_of_mem hi);refine⟨hr,λp hp=>?_,⟨hf.os,hf.tape,hf.output,hf.size,hf.drawn,λk hk hc=>hf.block k hk ?_⟩,λp hp hin hl k hk=>?_,λp hp hin hl k hk=>?_,λp hp q hq hin hin' hpq ho hl k hk hk'=>?_⟩
 .rcases mem p hp with ⟨i,hi,rfl⟩|rfl
  .trivial
  .exact hb
 .rintro⟨i,hi,b0,h1,h2⟩;exact hc ⟨_,gm i hi,hid i hi,b0,h1,h2⟩
 .rcases mem p hp with ⟨i,hi,rfl⟩|rfl
  .cases hl
  .rcases hn k hk with ⟨i,hi,b0,h1,h2⟩|h
   .refine .inr (.inl ⟨_,gm i hi,hid i hi,λz hz he=>?_,b0,h1,h2⟩);rcases mem z hz with ⟨j,hj,rfl⟩|rfl
    .rfl
    .have he:nid=i:=he;have:=hid i hi;rw[<-he,XA]at this;cases this
   .exact .inl h
 .rcases mem p hp with ⟨i,hi,rfl⟩|rfl
  .cases hl
  .rw[XA]at hin;cases hin
 .rcases mem p hp with ⟨i,hi,rfl⟩|rfl
  .cases ho
  .rcases mem q hq with ⟨j,hj,rfl⟩|rfl
   .cases hl
   .exact hpq rfl
theorem QXz{id:Nat}{m:Nat}(h:Ka r id w ty ks.length n (QW ks g))(hm:m<=n)(hb:∀ k,(r id).foot k->bk w' k=bk w k):Jw w' r' (r id) ks.length m (QW ks g):=by
 refine Jw.keep (r:=r) (w:=w) ⟨λhn=>by have:=h.2.2.2.1 hn;omega,λi hi=>?_⟩ hb
 have hnil:=Ha h (show 0<n by omega)
 refine⟨(h.2.2.1 _).2 ⟨hnil,rfl⟩,V0 _ _ _,λj v hv=>⟨?_,QDK h (by omega) hv⟩⟩
 have:=J2 ks 0 (g i);simp only[JV,List.all_eq_true]at this;exact this v (List.mem_of_getElem? hv)
theorem Qe6{ts:List TypeId}{h:List Nat×List Blk}{eff:Eff}(he:QGN P ts s x nid h=some eff)(hp:eff.pre=true)(hH:HOk r w nid lk)(hl:∀ i b,QEB h i=some b->lk i=some b)(ty:TypeId):
  ∃ w' r',(Builtin.append_ ts.toArray ty #[s.den r,x.den r]).run P w = .ok (eff.val.den r') w'/\Qi lk r nid eff.upd w r' w':=by
 unfold QGN at he;split at he<;>(try (cases he;done))
 rename_i t tx;split at he<;>(try (cases he;done))
 rename_i e e' ht htx;split at he<;>(try (cases he;done))
 rename_i i hi;split at he<;>(try (cases he;done))
 rename_i z hz;split at he<;>(try (cases he;done))
 rename_i hzs;simp only[qbA]at hzs;have hz1:z.cells.size=i.size:=qnb hzs.1;have hi1:i.size=1:=qnb hzs.2;split at he<;>(try (cases he;done))
 rename_i o q ho hq;split at he<;>(try (cases he;done))
 rename_i hks;simp only[qsI]at he;subst he;simp only[qbA,qdE]at hp;obtain⟨hp1,hp2,hfit⟩:=hp;have hts:([t,tx]:List TypeId).toArray = #[t,tx]:=rfl;rw[hts];unfold QQa at hq;split at hq<;>(try (cases hq;done))
 rename_i c idx ex nx cx;split at hq<;>(try (cases hq;done))
 rename_i bx hbx;split at hq<;>(try (cases hq;done))
 rename_i ib ii m kk hrows;split at hq<;>(try (cases hq;done))
 rename_i tyb ks nb g hc0 hbb;simp only[qbA]at hc0;have ii0:=qnb hc0.1;have kk0:=qnb hc0.2;subst ii0 kk0;simp only[qsI]at hq;subst hq;simp only[qdE]at hp2;have lib:=hl ib _ hbb;have inib:=hH.out ib _ lib;have hRb:Ka r ib w tyb ks.length nb (QW ks g):=hH.rep ib _ lib
 obtain⟨hR,hxk⟩:=QDF (r:=r) (w:=w) hrows (λc' id' e1 n1 cp1 b' hx' hb'=>by
  simp only[AV.slice.injEq]at hx';simp only[qsI]at hb';rw[<-hx'.2.1,<-hb'];exact hH.rep idx _ (hl idx _ hbx))
 have hsrc:Src P i.size tx ((AV.slice c idx ex nx cx).den r) 1 (AV.denL r [AV.slz ib 0 m (.of 0)]) w:=by
  have:=QF4 (P:=P) hR hxk htx (by simp[AV.atom])
  rw[hi1];simpa using this
 have fin:∀(n:Nat) (ln:Nat->Nat) (gg:Nat->Nat->Nat->Int) (use:List Nat) (inner:Nat->Loc) (w':World) (r1:Nat->Loc) (bl cap:Nat) (rest:List Value),
   (∀ j,inR nid j=false->r1 j=r j)->bl<w'.heap.size->w.heap.size<=w'.heap.size ->
   (∀ j,j<n->¬ (inner j).foot bl/\(inner j).esz=ks.length/\Jw w r (inner j) ks.length (ln j) (QW ks (gg j)))->(∀ j,j<n->∀ k,(inner j).foot k->k<w.heap.size)->¬ (r ib).foot bl ->
   (∀ k,k<w.heap.size->k≠bl->bk w' k=bk w k)->n+1<=cap->cap-(n+1)<=rest.length ->
   bk w' bl=some (.cells ((List.range n).map (λj=>Value.slice ((inner j).base 0) (ln j) ((inner j).room (inner j).cap))++[(AV.slz ib 0 m (.of 0)).den r]++rest).toArray e (0,0)) ->
   (∀ j∈use,inR nid j=false)->Fr w w' (λk=>∃ j∈use++[ib],∃ b0,lk j=some b0/\Qc r j b0 k) ->
   ((∃ j∈use++[ib],∃ b0,lk j=some b0/\Qc r j b0 bl)∨w.heap.size<=bl)->(∀ j,j<n->∀ k,(inner j).foot k->∃ j∈use++[ib],∃ b0,lk j=some b0/\Qc r j b0 k) ->
   ∃ r',(Value.slice (some ⟨bl,0,none⟩) (n+1) cap=(AV.slz nid 0 (n+1) (.of 0)).den r')/\Qi lk r nid ((use++[ib]).map (λi=>(i,Blk.gone))++[(nid,.frz2 true e ks (n+1) (vA n ln m) (QBl n gg g))]) w r' w':=by
  intro n ln gg use inner w' r1 bl cap rest h1 h2 h3 h4 h5 h6 h7 h8 h9 h10 h11 h12 h13 h14
  let inn:Nat->Loc:=λj=>match Nat.blt j n with
   | true=>inner j
   | false=>r ib
  have innT:∀ j,j<n->inn j=inner j:=λj hj=>by simp only[inn,QEY hj]
  have innF:∀ j,¬ j<n->inn j=r ib:=λj hj=>by simp only[inn,QAJ hj]
  have hfb:∀ k,(r ib).foot k->k<w.heap.size:=λk hk=>(hH.rep ib _ lib).lt rfl k hk;refine⟨Qk r1 nid ⟨bl,0,1,cap,false,none,λk=>k=bl∨∃ j,j<n+1/\(inn j).foot k⟩,by simp[AV.den,Qk,Loc.base,Loc.room,Cap.den],Qi.movedL (λj hj=>?_) (λj hj=>by unfold Qk;rw[if_neg (ZP hj)];exact h1 j hj) ?_ h12 (λk hk=>?_)⟩
  .rcases List.mem_append.1 hj with hj|hj
   .exact h11 j hj
   .simp only[List.mem_singleton]at hj;subst hj;exact inib
  .simp only[QL,Qk,if_true];refine⟨trivial,trivial,λh=>(by cases h),inn,λk=>?_,λk hk=>?_,λj hj=>?_,λ_=>⟨h8,rest,h9,?_⟩⟩
   .simp
   .rcases hk with rfl|⟨j,hj,hk⟩
    .exact h2
    .by_cases hjn:j<n
     .rw[innT j hjn]at hk;exact Nat.lt_of_lt_of_le (h5 j hjn k hk) h3
     .rw[innF j hjn]at hk;exact Nat.lt_of_lt_of_le (hfb k hk) h3
   .by_cases hjn:j<n
    .obtain⟨a1,a2,a3⟩:=h4 j hjn;rw[innT j hjn];simp only[vA,QBl,QEY hjn];exact⟨a1,a2,a3.keep λk hk=>h7 k (h5 j hjn k hk) (λe=>a1 (e ▸ hk))⟩
    .rw[innF j hjn];simp only[vA,QBl,QAJ hjn];exact⟨h6,hRb.2.1,QXz hRb hp2 λk hk=>h7 k (hfb k hk) (λe=>h6 (e ▸ hk))⟩
   .rw[h10];congr 3;rw[List.range_succ,List.map_append];congr 1;congr 1
    .apply List.map_congr_left;intro j hj;have hj:=List.mem_range.1 hj;rw[innT j hj];simp only[vA,QEY hj]
    .simp only[List.map_cons,List.map_nil,innF n (qli n),vA,QAJ (qli n),AV.den,Cap.den,Nat.sub_zero]
  .have hk:k=bl∨∃ j,j<n+1/\(inn j).foot k:=by simpa[Qc,Qk]using hk
   rcases hk with rfl|⟨j,hj,hk⟩
   .exact h13
   .by_cases hjn:j<n
    .rw[innT j hjn]at hk;exact .inl (h14 j hjn k hk)
    .rw[innF j hjn]at hk;exact .inl ⟨ib,by simp,_,lib,hk⟩
 have scope:(AV.slz ib 0 m (.of 0)).all (λj=>!inR nid j)=true:=by simp[AV.all,inib]
 have grow:∀(n:Nat) (ln:Nat->Nat) (gg:Nat->Nat->Nat->Int) (use:List Nat) (inner:Nat->Loc) (base:Option Addr) (cap:Nat),s.den r = .slice base n cap->cap<n+1 ->
   (∀ j,j<n->(inner j).esz=ks.length/\Jw w r (inner j) ks.length (ln j) (QW ks (gg j)))->(∀ j,j<n->∀ k,(inner j).foot k->k<w.heap.size) ->
   (Builtin.firstCells i.size n (.slice base n cap)).run P w.drew = .ok (((List.range n).map (λj=>Value.slice ((inner j).base 0) (ln j) ((inner j).room (inner j).cap))).toArray) w.drew ->
   (n+1+(n+1) / 4+192)*i.bytes<=281474976710656/\n+1<=9223372036854775807->(∀ j∈use,inR nid j=false)->(∀ j,j<n->∀ k,(inner j).foot k->∃ j∈use++[ib],∃ b0,lk j=some b0/\Qc r j b0 k) ->
   ∃ w' r',(Builtin.append_ #[t,tx] ty #[s.den r,(AV.slice c idx ex nx cx).den r]).run P w = .ok ((AV.slz nid 0 (n+1) (.of 0)).den r') w'/\Qi lk r nid ((use++[ib]).map (λi=>(i,Blk.gone))++[(nid,.frz2 true e ks (n+1) (vA n ln m) (QBl n gg g))]) w r' w':=by
  intro n ln gg use inner base cap hden hcap hin hft hold hfit huse hfo;let olds:List (List AV):=(List.range n).map λj=>[AV.raw (Value.slice ((inner j).base 0) (ln j) ((inner j).room (inner j).cap))];have hol:olds.length=n:=by simp[olds]
  have hofl:∀(rr:Nat->Loc),AV.denL rr olds.flatten=(List.range n).map (λj=>Value.slice ((inner j).base 0) (ln j) ((inner j).room (inner j).cap)):=by
   intro rr;simp only[olds];generalize List.range n=l
   induction l with
   | nil=>rfl
   | cons a l ih=>simp only[List.map_cons,List.flatten_cons,List.cons_append,List.nil_append,AV.denL,AV.den,ih]
  obtain⟨w',r',g1,g2,g3,g4,g5⟩:=QA2 (P:=P) (lk:=lk) (r:=r) (nid:=nid) (w:=w) (t:=t) (tx:=tx) (ty:=ty) ht hi hz hz1 (base:=base) (sLen:=n) (sCap:=cap) (olds:=olds) (news:=[[AV.slz ib 0 m (.of 0)]])
   (λy hy=>by obtain⟨j,_,rfl⟩:=List.mem_map.1 hy;rw[hi1];rfl) (λy hy=>by simp only[List.mem_singleton]at hy;subst hy;rw[hi1];rfl) hol (by rw[hofl r];exact hold) (by simpa using hsrc)
   (by
    rw[List.all_append,qbA];refine⟨?_,by simp[AV.allL,AV.all,inib]⟩
    rw[List.all_eq_true];intro y hy;obtain⟨j,_,rfl⟩:=List.mem_map.1 hy;simp[AV.allL,AV.all]) hcap (by simpa using hfit)
  have hrep:=g2.rep (nid,.rowl e i.size (olds++[[AV.slz ib 0 m (.of 0)]])) (by simp)
  obtain⟨b1,b2,b3,b4,rest,b5,b6⟩:=hrep
  have hbl:bk w' (r' nid).blk=some (.cells ((List.range n).map (λj=>Value.slice ((inner j).base 0) (ln j) ((inner j).room (inner j).cap))++[(AV.slz ib 0 m (.of 0)).den r]++rest).toArray e (0,0)):=by
   rw[b6];simp only[List.flatten_append,Zx,hofl,List.flatten_cons,List.flatten_nil,List.append_nil,AV.denL];rw[show(AV.slz ib 0 m (.of 0)).den r'=(AV.slz ib 0 m (.of 0)).den r from by simp only[AV.den,g2.same ib inib]]
  have hlen:(olds++[[AV.slz ib 0 m (.of 0)]]).length=n+1:=by simp[hol]
  have frn:∀ k,k<w.heap.size->bk w' k=bk w k:=λk hk=>g2.fr.block k hk (by
   rintro⟨p,hp,hin,_⟩;simp only[List.mem_singleton]at hp;subst hp;rw[XA]at hin;cases hin)
  obtain⟨r2,f1,f2⟩:=fin n ln gg use inner w' r' (r' nid).blk (r' nid).cap rest g2.same (V6 b6) g2.fr.size (λj hj=>⟨λhc=>by have:=hft j hj _ hc;omega,(hin j hj).1,(hin j hj).2⟩) hft
   (λhc=>by have:=(hH.rep ib _ lib).lt rfl _ hc;omega) (λk hk _=>frn k hk) (by rw[hlen]at b4;exact b4) (by rw[hlen,hi1,Nat.mul_one]at b5;exact b5) hbl huse
   ⟨g2.fr.os,g2.fr.tape,g2.fr.output,g2.fr.size,g2.fr.drawn,λk hk _=>frn k hk⟩ (.inr g3) hfo
  refine⟨w',r2,?_,f2⟩;rw[hden,g1,<-f1];simp only[AV.den,Cap.den,b1,Nat.zero_mul,Nat.zero_add,Nat.sub_zero,hol,List.length_singleton]
 unfold QPl at ho;split at ho<;>(try (cases ho;done))
 .simp only[qsI]at ho;subst ho;exact grow 0 _ _ [] (λ_=>Loc.none 0) none 0 rfl (by omega) (λj hj=>absurd hj (Nat.not_lt_zero j)) (λj hj=>absurd hj (Nat.not_lt_zero j)) (run_firstCells_none w.drew i.size 0 0 0) hfit (by simp) (λj hj=>absurd hj (Nat.not_lt_zero j))
 .rename_i id i0 len k0;split at ho<;>(try (cases ho;done))
  rename_i ty' ks' n ln gg hc0 hb;simp only[qbA]at hc0;have i00:=qnb hc0.1;have k00:=qnb hc0.2;subst i00 k00;split at ho<;>(try (cases ho;done))
  rename_i hte;have hte:=qnb hte;subst hte;simp only[qsI]at ho;subst ho;simp only at hfit;have hks:ks'=ks:=Xf hks;subst hks;simp only[qdE]at hp1;subst hp1;have lid:=hl id _ hb;have inid:=hH.out id _ lid;obtain⟨h1,h2,h3,inner,h4,h5,h6,h7⟩:=hH.rep id _ lid
  have hne:id≠ib:=by
   rintro rfl;rw[lid]at lib;cases lib
  have hfo:∀ j,j<len->∀ k,(inner j).foot k->∃ j∈[id]++[ib],∃ b0,lk j=some b0/\Qc r j b0 k:=λj hj k hk=>⟨id,by simp,_,lid,(h4 k).2 (.inr ⟨j,hj,hk⟩)⟩
  have hfl:∀ j,j<len->∀ k,(inner j).foot k->k<w.heap.size:=λj hj k hk=>h5 k ((h4 k).2 (.inr ⟨j,hj,hk⟩));have huse:∀ j∈[id],inR nid j=false:=λj hj=>by simp only[List.mem_singleton]at hj;subst hj;exact inid
  cases hnil:(r id).nil with
  | true=>
   have n0:=h3 hnil;subst n0
   exact grow 0 ln gg [id] inner (r id).nb 0 (by simp only[AV.den,Loc.base,Loc.room,hnil]) (by omega) (λj hj=>absurd hj (Nat.not_lt_zero j)) (λj hj=>absurd hj (Nat.not_lt_zero j)) (by
    cases (r id).nb with
    | none=>exact run_firstCells_none w.drew i.size 0 0 0
    | some a=>exact run_firstCells_some w.drew i.size 0 a 0 0 [] (by simp) (by simp)) hfit huse hfo
  | false=>
   obtain⟨c1,rest,c2,c3⟩:=h7 hnil
   have hden:(AV.slz id 0 len (.of 0)).den r = .slice (some ⟨(r id).blk,0,none⟩) len (r id).cap:=by
    simp only[AV.den,Loc.base,Loc.room,hnil,Cap.den,h1,Nat.zero_mul,Nat.zero_add,Nat.sub_zero]
   have hblk:(r id).foot (r id).blk:=(h4 _).2 (.inl ⟨hnil,rfl⟩);have hbb:¬ (r ib).foot (r id).blk:=λhc=>hH.sep id ib _ _ lid lib hne rfl rfl _ hblk hc
   by_cases hroom:len+1<=(r id).cap
   .let olds:List (List AV):=(List.range len).map λj=>[AV.raw (Value.slice ((inner j).base 0) (ln j) ((inner j).room (inner j).cap))];have hol:olds.length=len:=by simp[olds]
    have hofl:∀(rr:Nat->Loc),AV.denL rr olds.flatten=(List.range len).map (λj=>Value.slice ((inner j).base 0) (ln j) ((inner j).room (inner j).cap)):=by
     intro rr;simp only[olds];generalize List.range len=l
     induction l with
     | nil=>rfl
     | cons a l ih=>simp only[List.map_cons,List.flatten_cons,List.cons_append,List.nil_append,AV.denL,AV.den,ih]
    have hrow:QL r id w (.rowl ty' 1 olds):=by
     refine⟨h1,h2,λy hy=>?_,by rw[hol];exact c1,rest,by rw[hol,Nat.mul_one];exact c2,by rw[hofl];exact c3⟩
     obtain⟨j,_,rfl⟩:=List.mem_map.1 hy;rfl
    obtain⟨s1,s2⟩:=QAG hrow (news:=[[AV.slz ib 0 m (.of 0)]]) (λy hy=>by simp only[List.mem_singleton]at hy;subst hy;rfl) (len:=olds.length) (qlr _) (by rw[hol];exact hroom)
    have hnews:([[AV.slz ib 0 m (.of 0)]]:List (List AV)).flatten=[AV.slz ib 0 m (.of 0)]:=rfl;rw[hnews]at s1 s2;have hrun:=run_append_room_src (P:=P) w t tx ty ty' i ht hi (r id).blk 0 len (r id).cap _ _ _ hsrc hroom (λj hj=>by rw[Nat.zero_add,hi1,<-hol];exact(s2 j hj).1) (λj hj=>by rw[Nat.zero_add,hi1,<-hol];exact(s2 j hj).2)
    rw[Nat.zero_add,hi1]at hrun;rw[List.take_length,List.drop_of_length_le (by omega),List.append_nil,hol]at s1
    obtain⟨b1,b2,b3,b4,rest',b5,b6⟩:=s1;have fr:=QAD w (r id).blk (len*1) (AV.denL r [AV.slz ib 0 m (.of 0)]);have hlen:(olds++[[AV.slz ib 0 m (.of 0)]]).length=len+1:=by simp[hol]
    obtain⟨r2,f1,f2⟩:=fin len ln gg [id] inner (w.setCells (r id).blk (len*1) (AV.denL r [AV.slz ib 0 m (.of 0)])) r (r id).blk (r id).cap rest' (λ_ _=>rfl) (V6 b6) fr.size (λj hj=>h6 j hj) hfl hbb (λk hk hne=>fr.block k hk hne) hroom (by rw[hlen,Nat.mul_one]at b5;exact b5)
     (by
      rw[b6];simp only[List.flatten_append,Zx,hofl,hnews,AV.denL])
     huse ⟨fr.os,fr.tape,fr.output,fr.size,fr.drawn,λk hk hc=>fr.block k hk λe=>hc ⟨id,by simp,_,lid,e ▸ hblk⟩⟩ (.inl ⟨id,by simp,_,lid,hblk⟩) hfo
    exact⟨_,r2,by rw[hden,hrun,f1],f2⟩
   .refine grow len ln gg [id] inner _ (r id).cap hden (by omega) (λj hj=>(h6 j hj).2) hfl ?_ hfit huse hfo
    have hl0:((List.range len).map (λj=>Value.slice ((inner j).base 0) (ln j) ((inner j).room (inner j).cap))).length=len*i.size:=by simp[hi1]
    exact run_firstCells_some w.drew i.size len _ len (r id).cap _ hl0 (λj u hu=>by
     rw[Vc,Nat.zero_add];show w.cell? _=_;rw[XB c3,List.getElem?_append_left (List.getElem?_eq_some_iff.1 hu).1];exact hu)
