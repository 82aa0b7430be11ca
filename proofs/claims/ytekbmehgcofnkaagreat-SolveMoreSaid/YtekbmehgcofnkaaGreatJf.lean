/- - -/
import Derived.Test.YtekbmehgcofnkaaGreatJe
set_option linter.all false
namespace Go.SX
open Go Go.RowKit Go.Proofs.YtekbmehgcofnkaaGreat
def Kt:List (List AV)->Nat->Nat->Nat->Int
 | [],_,_,_=>0
 | [y],_,_,j=>qK y j
 | y::y'::ys,k,i,j=>cond (decide (i=k)) (qK y j) (Kt (y'::ys) (k+1) i j)
def KH(n:Nat)(g h:Nat->Nat->Int)(i j:Nat):Int:=match n with
 | 0=>h i j
 | n+1=>cond (decide (i<n+1)) (g i j) (h (i-(n+1)) j)
def kOf:AV->CK
 | .int _ k _ => .int k
 | _ => .bool
def ckB:CK->CK->Bool
 | .int k,.int k'=>k==k'
 | .bool,.bool=>true
 | _,_=>false
def ksB:List CK->List CK->Bool
 | [],[]=>true
 | k::ks,k'::ks'=>ckB k k'&&ksB ks ks'
 | _,_=>false
def Xj:List (List AV)->Option (List CK)
 | []=>none
 | y::_=>some (y.map kOf)
structure Zr where
 n:Nat
 g:Nat->Nat->Int
 p:Bool
 use:Bool
 ks:Option (List CK)
def Gh(ks:Option (List CK))(l:List (List AV)):Bool:=match ks with
 | some ks=>l.all (XV ks)
 | none=>true
def QHv(sz:Nat)(ty:TypeId):AV->Option Blk->Option Zr
 | .nils,none=>some ⟨0,λ_ _=>0,true,false,none⟩
 | .slz _ e len cp,some b=>(match cp with
  | .lit c=>(match Nat.beq c 0&&Nat.beq len 0 with
   | true=>some ⟨0,λ_ _=>0,true,false,none⟩
   | false=>none)
  | .of k=>(match Nat.beq e 0&&Nat.beq k 0 with
   | true=>(match b with
    | .rowz true ty' ks n g=>(match ks.length==sz&&ty'==ty with
     | true=>some ⟨len,g,decide (len<=n),true,some ks⟩
     | false=>none)
    | _=>none)
   | false=>none))
 | .slice _ _ e len cp,some b=>(match cp with
  | .of k=>(match Nat.beq e 0&&Nat.beq k 0 with
   | true=>(match b with
    | .rowl ty' z l=>(match z==sz&&ty'==ty&&decide (len<=l.length)&&Gh (Xj l) l with
     | true=>some ⟨len,Kt l 0,true,true,Xj l⟩
     | false=>none)
    | _=>none)
   | false=>none)
  | .lit c=>(match Nat.beq c 0&&Nat.beq len 0 with
   | true=>some ⟨0,λ_ _=>0,true,false,none⟩
   | false=>(match Nat.beq e 0 with
    | true=>(match b with
     | .rowl ty' z l=>(match z==sz&&ty'==ty&&decide (len<=l.length)&&decide (c<=l.length)&&Gh (Xj l) l with
      | true=>some ⟨len,Kt l 0,true,true,Xj l⟩
      | false=>none)
     | _=>none)
    | false=>none)))
 | _,_=>none
def QJX(sz:Nat):AV->Option Blk->Option Zr
 | .slz _ e m _,some (.rowz _ _ ks n g)=>match ks.length==sz with
  | true=>some ⟨m,λi=>g (i+e),decide (m+e<=n),false,some ks⟩
  | false=>none
 | .slz _ e m _,some (.frz ks n g)=>match ks.length==sz with
  | true=>some ⟨m,λi=>g (i+e),decide (m+e<=n),false,some ks⟩
  | false=>none
 | x,b=>match QBK sz x b with
  | some news=>(match Gh (Xj news) news with
   | true=>some ⟨news.length,Kt news 0,true,false,Xj news⟩
   | false=>none)
  | none=>none
def idS:AV->List Nat
 | .slice _ id _ _ _=>[id]
 | .slz id _ _ _=>[id]
 | _=>[]
def QDr(use:Bool)(s:AV):List (Nat×Blk):=match use with
 | true=>(idS s).map λid=>(id,.gone)
 | false=>[]
def QFe:Option (List CK)->Option (List CK)->Option (List CK)
 | some a,some b=>match ksB a b with
  | true=>some a
  | false=>none
 | some a,none=>some a
 | none,some b=>some b
 | none,none=>none
def QHZ(P:Program)(ts:List TypeId)(s x:AV)(sb xb:Option Blk)(nid:Nat):Option Eff:=
 match ts with
 | [t,tx]=>match P.underlying t,P.underlying tx with
  | some (.slice e),some (.slice _)=>match P.info? e with
   | some i=>match i.zero with
    | some z=>match z.cells.size==i.size with
     | true=>(match QHv i.size e s sb,QJX i.size x xb with
      | some o,some q=>(match QFe o.ks q.ks with
       | some ks=>(match ks.length==i.size with
        | true=>some ⟨false,o.p&&(q.p&&decide ((o.n+q.n+(o.n+q.n) / 4+192)*i.bytes<=281474976710656/\o.n+q.n<=9223372036854775807)),.slz nid 0 (o.n+q.n) (.of 0),QDr o.use s++[(nid,.rowz true e ks (o.n+q.n) (KH o.n o.g q.g))]⟩
        | false=>none)
       | none=>none)
      | _,_=>none)
     | false=>none
    | none=>none
   | none=>none
  | _,_=>none
 | _=>none
theorem Xv:∀{a b:List CK},ksB a b=true->a=b
 | [],[],_=>rfl
 | [],_::_,h=>by cases h
 | _::_,[],h=>by cases h
 | k::a,k'::b,h=>by
  simp only[ksB,qbA]at h;rw[Xv h.2];congr 1;have h1:=h.1;cases k<;>cases k'<;>simp only[ckB,Bool.false_eq_true]at h1
  .rw[beq_iff_eq.1 h1]
  .rfl
variable {ks:List CK}{l:List (List AV)}{r:Nat->Loc}{w:World}{ty:TypeId}{lk:Nat->Option Blk}{nid:Nat}
theorem QK5(r:Nat->Loc){y:List AV}(h:XV ks y=true):AV.denL r (cellsOf ks 0 (qK y))=AV.denL r y:=QGl r ks y 0 _ h (λi _=>by rw[Nat.zero_add])
theorem QDj(r:Nat->Loc){ks:List CK}:∀(l:List (List AV)) (k i:Nat) (x:List AV),l.all (XV ks)=true->l[i]? = some x->AV.denL r (cellsOf ks 0 (Kt l k (k+i)))=AV.denL r x
 | [],_,i,x,_,h=>by simp at h
 | [y],k,i,x,ho,h=>by
  cases i with
  | zero=>
   simp only[List.getElem?_cons_zero,qsI]at h;subst h;exact QK5 r (by simpa using ho)
  | succ i=>simp at h
 | y::y'::ys,k,i,x,ho,h=>by
  rw[List.all_cons,qbA]at ho;cases i with
  | zero=>
   simp only[List.getElem?_cons_zero,qsI]at h;subst h;rw[<-QK5 r ho.1];congr 1;exact Wx ks 0 λj _=>by simp[Kt]
  | succ i=>
   rw[<-QDj r (y'::ys) (k+1) i x ho.2 (by simpa using h)]
   congr 1
   exact Wx ks 0 λj _=>by
    rw[Kt,decide_eq_false (by omega),cond_false,show k+(i+1)=k+1+i by omega]
theorem Xw(n:Nat)(g h:Nat->Nat->Int)(i j:Nat):KH n g h i j=if i<n then g i j else h (i-n) j:=by
 cases n with
 | zero=>simp[KH]
 | succ n=>
  simp only[KH]
  by_cases hi:i<n+1
  .rw[qde hi,if_pos hi];rfl
  .rw[decide_eq_false hi,if_neg hi];rfl
theorem QGC(h:Xj l=some ks)(ho:Gh (Xj l) l=true):l.all (XV ks)=true:=by rw[h]at ho;exact ho
theorem QRd(ho:Gh (Xj l) l=true):l.all JX=true:=by
 cases l with
 | nil=>rfl
 | cons y ys=>
  have h0:=QGC (ks:=y.map kOf) rfl ho;rw[List.all_eq_true]at h0 ⊢;intro x hx;have:=h0 x hx
  have key:∀(ks:List CK) (x:List AV),XV ks x=true->JX x=true:=by
   intro ks
   induction ks with
   | nil=>intro x h;cases x with
    | nil=>rfl
    | cons _ _=>cases h
   | cons k ks ih=>
    intro x h;cases x with
    | nil=>cases h
    | cons v x=>
     simp only[XV,qbA]at h;rw[JX,List.all_cons,qbA];refine⟨?_,ih x h.2⟩;have h1:=h.1;cases k<;>cases v<;>simp only[okC,Bool.false_eq_true]at h1<;>rfl
  exact key _ x this
theorem QAR{id:Nat}{z:Nat}(h:QL r id w (.rowl ty z l)){k:Nat}(hk:k<=l.length):QL r id w (.rowl ty z (l.take k)):=by
 obtain⟨h1,h2,h3,h4,rest,h5,h6⟩:=h;refine⟨h1,h2,λx hx=>h3 x (List.mem_of_mem_take hx),by simp;omega,AV.denL r (l.drop k).flatten++rest,?_,?_⟩
 .have e1:=X0 z (l.drop k) (λx hx=>h3 x (List.mem_of_mem_drop hx));rw[List.length_append,KO,e1,List.length_drop,List.length_take,Nat.min_eq_left hk];have e2:(l.length-k)*z+((r id).cap-l.length)*z=((r id).cap-k)*z:=by rw[<-Nat.add_mul];congr 1;omega
  omega
 .rw[h6,<-List.append_assoc,<-Wr,<-List.flatten_append,List.take_append_drop]
theorem QVJ{P:Program}{sz:Nat}{x:AV}{xb:Option Blk}{q:Zr}(hn:QJX sz x xb=some q)(hq:q.p=true)(hx:∀ id b,idS x=[id]->xb=some b->QL r id w b){tx e':TypeId}(hk:P.underlying tx=some (.slice e'))(hks:∀ a,q.ks=some a->a=ks)(hsz:ks.length=sz):
  Src P sz tx (x.den r) q.n (AV.denL r (Q6 q.n (QW ks q.g)).flatten) w:=by
 have core:∀(base:Option Addr) (m cap:Nat) (h:Nat->Nat->Int),(0<m->∃ b o,base=some ⟨b,o,none⟩/\∀ i,i<m->∀ j v,(QW ks h i)[j]? = some v->w.cell? ⟨b,o+i*sz+j,none⟩=some (v.den r)) ->
   Src P sz tx (.slice base m cap) m (AV.denL r (Q6 m (QW ks h)).flatten) w:=by
  intro base m cap h hcell
  have hsz':∀ y∈Q6 m (QW ks h),y.length=sz:=λy hy=>by
   obtain⟨i,hi,rfl⟩:=WD hy;rw[QW,XS];exact hsz
  have h1:∀ u∈AV.denL r (Q6 m (QW ks h)).flatten,u.oneCell'=true:=by
   intro u hu;rw[Qt]at hu;obtain⟨v,hv,rfl⟩:=List.mem_map.1 hu;obtain⟨y,hy,hvy⟩:=List.mem_flatten.1 hv;obtain⟨i,hi,rfl⟩:=WD hy;have:=J6 ks 0 (h i);simp only[JX,List.all_eq_true,qc,qbA]at this;exact QEF r (this v hvy).1
  have hl:(AV.denL r (Q6 m (QW ks h)).flatten).length=m*sz:=by rw[KO,X0 sz _ hsz',JI]
  by_cases hm:m=0
  .subst hm;cases base with
   | none=>exact Src.ofNil w hk cap
   | some a=>exact Src.ofSlice w hk a 0 cap _ hl (λj u hu=>by simp[Q6,AV.denL]at hu) h1
  .obtain⟨b,o,rfl,hc⟩:=hcell (by omega)
   refine Src.ofSlice w hk _ _ _ _ hl (λj u hu=>?_) h1;rw[V2];rw[Qt,List.getElem?_map]at hu;obtain⟨v,hv,rfl⟩:=Option.map_eq_some_iff.1 hu;have hj:=(List.getElem?_eq_some_iff.1 hv).1;rw[X0 sz _ hsz',JI]at hj
   have hs0 : 0 < sz := by rcases Nat.eq_zero_or_pos sz with e | e; · rw[e]at hj; omega
                           . exact e
   have hd:j / sz<m:=Nat.div_lt_of_lt_mul (by rw[Nat.mul_comm];exact hj)
   have hmod:=Nat.mod_lt j hs0;have he:j / sz*sz+j % sz=j:=by rw[Nat.mul_comm];exact Nat.div_add_mod j sz
   obtain⟨_,f2⟩:=qo sz _ hsz' (j / sz) _ (Ya hd) (j % sz) hmod;rw[he]at f2;have:=hc (j / sz) hd (j % sz) v (by rw[<-f2,hv])
   rw[Nat.add_assoc,he]at this;exact this
 unfold QJX at hn;split at hn
 .rename_i id e mm cp o ty ks0 n get;split at hn<;>(try (cases hn;done))
  simp only[qsI]at hn;subst hn;simp only[qdE]at hq;have:=hks _ rfl;subst this;have hb:Kg r id w ty ks0.length n (QW ks0 get):=hx id _ rfl rfl;refine core _ _ _ _ λhm=>?_;have hnil:=QBG hb (by omega)
  refine⟨(r id).blk,(r id).off+e*(r id).esz,by simp[Loc.base,hnil],λi hi j v hv=>?_⟩
  have:=QGm hb (e:=i+e) (by omega) hv
  rw[<-hsz,hb.2.1,Nat.add_assoc (r id).off,<-Nat.add_mul,Nat.add_comm e i];exact this
 .rename_i id e mm cp ks0 n get;split at hn<;>(try (cases hn;done))
  simp only[qsI]at hn;subst hn;simp only[qdE]at hq;have:=hks _ rfl;subst this;have hb:=hx id _ rfl rfl;refine core _ _ _ _ λhm=>?_
  have hnil:(r id).nil=false:=by
   cases hh:(r id).nil with
   | false=>rfl
   | true=>have:=hb.2.2.1 hh;omega
  refine⟨(r id).blk,(r id).off+e*(r id).esz,by simp[Loc.base,hnil],λi hi j v hv=>?_⟩
  have:=((hb.2.2.2 (i+e) (by omega)).2.2 j v hv).2
  rw[<-hsz,hb.1,Nat.add_assoc (r id).off,<-Nat.add_mul,Nat.add_comm e i];exact this
 .split at hn<;>(try (cases hn;done))
  rename_i news hnews;split at hn<;>(try (cases hn;done))
  rename_i hfl;simp only[qsI]at hn;subst hn;obtain⟨hR,hxk⟩:=QFg (r:=r) (w:=w) hnews (λc id e n cp b' hxe hb=>hx id b' (by rw[hxe];rfl) hb)
  have hat:news.all (λy=>y.all AV.atom)=true:=by
   have hfl:=QRd hfl;rw[List.all_eq_true]at hfl ⊢;intro y hy;have:=hfl y hy;simp only[JX,List.all_eq_true,qc,qbA]at this ⊢;exact λv hv=>(this v hv).1
  have hsrc:=QN6 (P:=P) hR hxk hk hat
  have hcg:AV.denL r news.flatten=AV.denL r (Q6 news.length (QW ks (Kt news 0))).flatten:=by
   cases hkn:Xj news with
   | none=>
    cases news with
    | nil=>rfl
    | cons _ _=>cases hkn
   | some a=>
    have:=hks a (by simp only;exact hkn)
    subst this;have hall:=QGC hkn hfl;apply QEH;apply List.ext_getElem?;intro i;rw[List.getElem?_map,List.getElem?_map];rcases Nat.lt_or_ge i news.length with hi|hi
    .rw[Ya hi,List.getElem?_eq_getElem hi];have:=QDj r news 0 i _ hall (List.getElem?_eq_getElem hi);rw[Nat.zero_add]at this;simp only[Option.map_some,QW,this]
    .rw[List.getElem?_eq_none hi,List.getElem?_eq_none (by rw[JI];exact hi)]
  exact hcg ▸ hsrc
theorem Qd8{sz:Nat}{s:AV}{sb:Option Blk}{o:Zr}(h:QHv sz ty s sb=some o)(hp:o.p=true)(hs:∀ id b,idS s=[id]->sb=some b->QL r id w b)(hks:∀ a,o.ks=some a->a=ks):
  (o.use=false/\o.n=0/\∃ base,s.den r = .slice base 0 0) ∨
  (o.use=true/\∃ id b,idS s=[id]/\sb=some b/\((o.n=0/\(∀ k,¬ Qg r id b k)/\∃ base,s.den r = .slice base 0 0) ∨
   ∃ L cap,L.length=o.n/\(∀ i x,L[i]? = some x->AV.denL r x=AV.denL r (QW ks o.g i))/\L.all JX=true/\QL r id w (.rowl ty sz L)/\cap<=(r id).cap/\s.den r = .slice (some ⟨(r id).blk,0,none⟩) o.n cap/\∀ k,Qg r id b k↔k=(r id).blk)):=by
 have ofRows:∀(l:List (List AV)) (len:Nat),len<=l.length->Gh (Xj l) l=true->(∀ a,Xj l=some a->a=ks)->(∀ i x,(l.take len)[i]? = some x->AV.denL r x=AV.denL r (QW ks (Kt l 0) i))/\(l.take len).all JX=true/\(l.take len).length=len:=by
  intro l len hle hfl hkl;refine⟨λi x hx=>?_,?_,by simp;omega⟩
  .have hi:=(List.getElem?_eq_some_iff.1 hx).1;rw[List.getElem?_take_of_lt (by simp at hi;omega)]at hx
   cases hkn:Xj l with
   | none=>
    cases l with
    | nil=>simp at hx
    | cons _ _=>cases hkn
   | some a=>
    have:=hkl a hkn;subst this;have:=QDj r l 0 i x (QGC hkn hfl) hx;rw[Nat.zero_add]at this;exact this.symm
  .have hfl:=QRd hfl;rw[List.all_eq_true]at hfl ⊢;exact λy hy=>hfl y (List.mem_of_mem_take hy)
 unfold QHv at h;split at h
 .simp only[qsI]at h;subst h;exact .inl ⟨rfl,rfl,none,rfl⟩
 .rename_i id e len cp b;cases cp with
  | lit c=>
   simp only at h;split at h<;>(try (cases h;done))
   rename_i hc;simp only[qbA]at hc;have c0:=qnb hc.1;have l0:=qnb hc.2;subst c0;subst l0;simp only[qsI]at h;subst h;refine .inl ⟨rfl,rfl,(r id).base e,?_⟩;simp only[AV.den,Cap.den,Loc.room];cases (r id).nil<;>rfl
  | of k=>
   simp only at h;split at h<;>(try (cases h;done))
   rename_i hc;simp only[qbA]at hc;have e0:=qnb hc.1;have k0:=qnb hc.2;subst e0;subst k0;split at h<;>(try (cases h;done))
   rename_i ty' ks0 nn get;split at h<;>(try (cases h;done))
   rename_i hc;simp only[qbA,beq_iff_eq]at hc;obtain⟨rfl,rfl⟩:=hc;simp only[qsI]at h;subst h;simp only[qdE]at hp;have:=hks _ rfl;subst this;have hb:Kg r id w ty' ks0.length nn (QW ks0 get):=hs id _ rfl rfl;refine .inr ⟨rfl,id,_,rfl,rfl,?_⟩;cases hnil:(r id).nil with
   | true=>
    have:=hb.2.2.2.1 hnil;refine .inl ⟨by simp only;omega,λk hk=>?_,(r id).nb,?_⟩
    .have:=((hb.2.2.1 k).1 hk).1;rw[hnil]at this;cases this
    .have e0:len=0:=by omega
     subst e0;simp only[AV.den,Loc.base,Loc.room,hnil]
   | false=>
    have hrow:=QAR (QBl hb hnil) (k:=len) (by rw[JI];exact hp)
    have hfl:=hb.2.2.2.2.1;refine .inr ⟨(Q6 nn (QW ks0 get)).take len,(r id).cap,by simp[JI];omega,λi x hx=>?_,?_,hrow,qlr _,?_,λk=>?_⟩
    .have hi:=(List.getElem?_eq_some_iff.1 hx).1;simp only[List.length_take,JI]at hi;rw[List.getElem?_take_of_lt (by omega),Ya (by omega)]at hx
     simp only[qsI]at hx;subst hx;rfl
    .rw[List.all_eq_true];intro y hy;obtain⟨i,hi,rfl⟩:=WD (List.mem_of_mem_take hy);exact(hfl i hi).2
    .simp only[AV.den,Loc.base,Loc.room,hnil,Cap.den,hb.1,Nat.zero_mul,Nat.zero_add,Nat.sub_zero]
    .refine(hb.2.2.1 k).trans ?_;rw[hnil];simp
 .rename_i c id e len cp b;cases cp with
  | of k=>
   simp only at h;split at h<;>(try (cases h;done))
   rename_i hc;simp only[qbA]at hc;have e0:=qnb hc.1;have k0:=qnb hc.2;subst e0;subst k0;split at h<;>(try (cases h;done))
   rename_i ty' z l;split at h<;>(try (cases h;done))
   rename_i hc;simp only[qbA,beq_iff_eq,qdE]at hc;obtain⟨⟨⟨rfl,rfl⟩,hle⟩,hfl⟩:=hc;simp only[qsI]at h;subst h;have hb:=hs id _ rfl rfl;obtain⟨o1,o3,o4⟩:=ofRows l len hle hfl hks;refine .inr ⟨rfl,id,_,rfl,rfl,.inr ⟨l.take len,(r id).cap,o4,o1,o3,QAR hb hle,qlr _,?_,λk=>Iff.rfl⟩⟩;simp only[AV.den,Cap.den,hb.1,Nat.zero_mul,Nat.zero_add,Nat.sub_zero]
  | lit cp=>
   simp only at h;split at h
   .rename_i hc;simp only[qbA]at hc;have c0:=qnb hc.1;have l0:=qnb hc.2;subst c0;subst l0;simp only[qsI]at h;subst h;exact .inl ⟨rfl,rfl,_,rfl⟩
   .split at h<;>(try (cases h;done))
    rename_i hc;have e0:=qnb hc;subst e0;split at h<;>(try (cases h;done))
    rename_i ty' z l;split at h<;>(try (cases h;done))
    rename_i hc;simp only[qbA,beq_iff_eq,qdE]at hc;obtain⟨⟨⟨⟨rfl,rfl⟩,hle⟩,hcp⟩,hfl⟩:=hc;simp only[qsI]at h;subst h;have hb:=hs id _ rfl rfl;obtain⟨o1,o3,o4⟩:=ofRows l len hle hfl hks;refine .inr ⟨rfl,id,_,rfl,rfl,.inr ⟨l.take len,cp,o4,o1,o3,QAR hb hle,Nat.le_trans hcp hb.2.2.2.1,?_,λk=>Iff.rfl⟩⟩;simp only[AV.den,Cap.den,hb.1,Nat.zero_mul,Nat.zero_add]
 .cases h
theorem Qq.toZ{r':Nat->Loc}{w':World}{n:Nat}{g:Nat->Nat->Int}(h:Qq lk r nid [(nid,.rowl ty ks.length l)] w r' w')(hn:(r' nid).nil=false)(hf:∀ k,(r' nid).foot k↔k=(r' nid).blk)(hl:l.length=n)(hg:∀ i x,l[i]? = some x->AV.denL r' x=AV.denL r' (QW ks g i)):Qq lk r nid [(nid,.rowz true ty ks n g)] w r' w':=by
 have hr:QL r' nid w' (.rowz true ty ks n g):=QAP (h.rep (nid,.rowl ty ks.length l) (by simp)) hn hf hl hg (λi _=>J6 _ _ _)
 refine⟨h.same,λp hp=>?_,⟨h.fr.os,h.fr.tape,h.fr.output,h.fr.size,h.fr.drawn,λk hk hc=>h.fr.block k hk ?_⟩,λp hp hin hlv k hk=>?_,λp hp hin=>?_,λp hp q hq _ _ hne=>?_⟩
 .simp only[List.mem_singleton]at hp;subst hp;exact hr
 .rintro⟨p,hp,hin,_⟩;simp only[List.mem_singleton]at hp;subst hp;rw[ZF]at hin;cases hin
 .simp only[List.mem_singleton]at hp;subst hp;have:=h.new (nid,.rowl ty ks.length l) (by simp) hin rfl k ((hf k).1 hk)
  rcases this with h1|⟨q,hq,h1,_⟩|⟨h1,_⟩
  .exact .inl h1
  .simp only[List.mem_singleton]at hq;subst hq;rw[ZF]at h1;cases h1
  .cases h1
 .simp only[List.mem_singleton]at hp;subst hp;rw[ZF]at hin;cases hin
 .simp only[List.mem_singleton]at hp hq;subst hp;subst hq;exact absurd rfl hne
theorem Qq.ghost{l:Loc}{b:Blk}(hb:QL (Qr r nid l) nid w b)(hf:∀ k,¬ Qg (Qr r nid l) nid b k):Qq lk r nid [(nid,b)] w (Qr r nid l) w:=by
 refine⟨λid h=>by unfold Qr;rw[if_neg (qP h)],λp hp=>?_,Fr.refl w _,λp hp hin hlv k hk=>?_,λp hp hin=>?_,λp hp q hq _ _ hne=>?_⟩
 .simp only[List.mem_singleton]at hp;subst hp;exact hb
 .simp only[List.mem_singleton]at hp;subst hp;exact absurd hk (hf k)
 .simp only[List.mem_singleton]at hp;subst hp;rw[ZF]at hin;cases hin
 .simp only[List.mem_singleton]at hp hq;subst hp;subst hq;exact absurd rfl hne
theorem Qgo{id n:Nat}(hn:(r id).nil=false):(AV.slice true id 0 n (.of 0)).den r=(AV.slz id 0 n (.of 0)).den r:=by
 simp only[AV.den,Loc.base,Loc.room,hn]
theorem QRN{base:Option Addr}{e:TypeId}{g:Nat->Nat->Int}:QL (Qr r nid ⟨0,0,ks.length,0,true,base,λ_=>False⟩) nid w (.rowz true e ks 0 g):=by
 simp only[QL,Kg,Qr,if_true];refine⟨trivial,trivial,λk=>?_,λ_=>trivial,λi hi=>by omega,λh=>by cases h⟩
 simp
theorem QWB{a b:Option (List CK)}(h:QFe a b=some ks):(∀ x,a=some x->x=ks)/\∀ x,b=some x->x=ks:=by
 unfold QFe at h;split at h
 .split at h<;>(try (cases h;done))
  rename_i hb;have:=Xv hb;simp only[qsI]at h;subst h;subst this;exact⟨λx hx=>by simpa using hx.symm,λx hx=>by simpa using hx.symm⟩
 .simp only[qsI]at h;subst h;exact⟨λx hx=>by simpa using hx.symm,λx hx=>by cases hx⟩
 .simp only[qsI]at h;subst h;exact⟨λx hx=>(by cases hx),λx hx=>by simpa using hx.symm⟩
 .cases h
theorem QcS{P:Program}{ts:List TypeId}{s x:AV}{sb xb:Option Blk}{eff:Eff}(h:QHZ P ts s x sb xb nid=some eff)(hp:eff.pre=true)(hs:∀ id b,idS s=[id]->sb=some b->QL r id w b/\inR nid id=false/\lk id=some b)(hx:∀ id b,idS x=[id]->xb=some b->QL r id w b)(ty:TypeId):
  ∃ w' r',(Builtin.append_ ts.toArray ty #[s.den r,x.den r]).run P w = .ok (eff.val.den r') w'/\Qq lk r nid eff.upd w r' w':=by
 unfold QHZ at h;split at h<;>(try (cases h;done))
 rename_i t tx;split at h<;>(try (cases h;done))
 rename_i e e' ht htx;split at h<;>(try (cases h;done))
 rename_i i hi;split at h<;>(try (cases h;done))
 rename_i z hz;split at h<;>(try (cases h;done))
 rename_i hzs;have hzs:z.cells.size=i.size:=by simpa using hzs
 split at h<;>(try (cases h;done))
 rename_i o q ho hn;split at h<;>(try (cases h;done))
 rename_i ks hks;split at h<;>(try (cases h;done))
 rename_i hkl;have hkl:ks.length=i.size:=by simpa using hkl
 obtain⟨hk1,hk2⟩:=QWB hks;simp only[qsI]at h;subst h;simp only[qbA,qdE]at hp;obtain⟨hp1,hp2,hfit⟩:=hp;have hsrc:=QVJ (P:=P) (r:=r) (w:=w) hn hp2 hx htx hk2 hkl;have hold0:=Qd8 (r:=r) (w:=w) ho hp1 (λid b h1 h2=>(hs id b h1 h2).1) hk1;obtain⟨n,g,p,use,ko⟩:=o;obtain⟨m,hh,q,use',kq⟩:=q;simp only at hsrc hold0 hfit ⊢
 have hnl:∀ y∈Q6 m (QW ks hh),y.length=i.size:=λy hy=>by
  obtain⟨j,hj,rfl⟩:=WD hy;rw[QW,XS];exact hkl
 have hnf:(Q6 m (QW ks hh)).all JX=true:=by
  rw[List.all_eq_true];intro y hy;obtain⟨j,hj,rfl⟩:=WD hy;exact J6 _ _ _
 have closed:∀{l:List (List AV)},l.all JX=true->l.all (AV.allL λj=>!inR nid j)=true:=by
  intro l hl;rw[List.all_eq_true]at hl ⊢;exact λy hy=>allL_mono (λ_ hf=>by cases hf) y (Xh (hl y hy))
 have joined:∀(r':Nat->Loc) (L:List (List AV)),L.length=n->(∀ i x,L[i]? = some x->AV.denL r' x=AV.denL r' (QW ks g i)) ->
   (L++Q6 m (QW ks hh)).length=n+m/\(∀ i x,(L++Q6 m (QW ks hh))[i]? = some x->AV.denL r' x=AV.denL r' (QW ks (KH n g hh) i)):=by
  intro r' L hL hg;refine⟨by simp[hL,JI],λj y hy=>?_⟩
  rcases Nat.lt_or_ge j n with hj|hj
  .rw[List.getElem?_append_left (by omega)]at hy
   rw[hg j y hy];congr 1;exact Wx ks 0 λb _=>by rw[Xw,if_pos hj]
  .rw[List.getElem?_append_right (by omega),hL]at hy
   have hlt:=(List.getElem?_eq_some_iff.1 hy).1;rw[JI]at hlt;rw[Ya hlt]at hy;simp only[qsI]at hy;subst hy;congr 1;exact Wx ks 0 λb _=>by rw[Xw,if_neg (by omega)]
 have hts:([t,tx]:List TypeId).toArray = #[t,tx]:=rfl;rw[hts]
 have none_:∀ base,n=0->s.den r = .slice base 0 0->m=0->(Builtin.append_ #[t,tx] ty #[s.den r,x.den r]).run P w = .ok (.slice base 0 0) w:=by
  intro base _ hden hm;subst hm;have hcl:=hsrc.cells;have hln:=hsrc.len w;have e0:AV.denL r (Q6 0 (QW ks hh)).flatten=[]:=rfl;rw[e0]at hcl;rw[hden];simp[Builtin.append_,run_underlying ht,run_underlying htx,sizeOf,typeInfo,hi,hln,hcl];cases base<;>simp[storeCells]
 have grow:∀(base:Option Addr) (L:List (List AV)) (cap:Nat),L.length=n->s.den r = .slice base n cap->(∀ y∈L,y.length=i.size)->L.all JX=true->(∀ i x,L[i]? = some x->AV.denL r x=AV.denL r (QW ks g i))->cap<n+m ->
   (Builtin.firstCells i.size n (.slice base n cap)).run P w.drew = .ok (AV.denL r L.flatten).toArray w.drew ->
   ∃ w' r',(Builtin.append_ #[t,tx] ty #[s.den r,x.den r]).run P w = .ok ((AV.slz nid 0 (n+m) (.of 0)).den r') w'/\Qq lk r nid [(nid,.rowz true e ks (n+m) (KH n g hh))] w r' w'/\∀ k,(r' nid).foot k->w.heap.size<=k:=by
  intro base L cap hL hden hLs hLf hg hcap hold;have hsrc':=hsrc;rw[<-JI m (QW ks hh)]at hsrc';have hrl:(Q6 (Q6 m (QW ks hh)).length (QW ks hh))=Q6 m (QW ks hh):=by rw[JI]
  rw[hrl]at hsrc'
  obtain⟨w',r',h1,h2,h3,h4,h5⟩:=QDl (P:=P) (lk:=lk) (r:=r) (nid:=nid) (w:=w) (t:=t) (tx:=tx) (ty:=ty) ht hi hz hzs (base:=base) (sLen:=n) (sCap:=cap) (olds:=L) (news:=Q6 m (QW ks hh)) hLs hnl hL hold hsrc'
   (closed (by rw[List.all_append,hLf,hnf];rfl)) (by rw[JI];exact hcap) (by rw[JI];exact hfit)
  have hg':∀ i x,L[i]? = some x->AV.denL r' x=AV.denL r' (QW ks g i):=by
   intro j y hy
   have hyf:AV.allL (λ_=>false) y=true:=by
    rw[List.all_eq_true]at hLf;exact Xh (hLf y (List.mem_of_getElem? hy))
   rw[denL_congr (p:=λ_=>false) (r:=r') (r':=r) (λ_ hf=>by cases hf) y hyf,denL_congr (p:=λ_=>false) (r:=r') (r':=r) (λ_ hf=>by cases hf) (QW ks g j) (Xh (l:=QW ks g j) (J6 _ _ _))]
   exact hg j y hy
  obtain⟨j1,j2⟩:=joined r' L hL hg';rw[<-hkl]at h2;refine⟨w',r',?_,h2.toZ h4 h5 j1 j2,λk hk=>?_⟩
  .rw[hden,<-Qgo h4,h1,JI]
  .rw[(h5 k).1 hk];exact h3
 have hgst:∀ id,use=true->idS s=[id]->QDr use s=[(id,.gone)]:=by
  intro id hu hid;rw[hu];simp only[QDr,hid,List.map_cons,List.map_nil]
 rcases hold0 with ⟨hu,hn0,base,hden⟩|⟨hu,id,b,hid,hsb,⟨hn0,hft,base,hden⟩|⟨L,cap,hL,hLg,hLf,hrep,hcap,hden,hft⟩⟩
 .
  have eg:QDr use s=[]:=by rw[hu];rfl
  rw[eg,List.nil_append]
  by_cases hm:m=0
  .refine⟨w,Qr r nid ⟨0,0,ks.length,0,true,base,λ_=>False⟩,?_,?_⟩
   .rw[none_ base hn0 hden hm,hn0,hm];simp[AV.den,Loc.base,Loc.room,Qr]
   .have e0:n+m=0:=by omega
    rw[e0];exact Qq.ghost QRN λk hk=>by simp[Qg,Qr]at hk
  .subst hn0
   obtain⟨w',r',h1,h2,_⟩:=grow base [] 0 rfl hden (by simp) rfl (by simp) (by omega) (by
    cases base with
    | none=>exact run_firstCells_none w.drew i.size 0 0 0
    | some a=>exact run_firstCells_some w.drew i.size 0 a 0 0 [] (by simp) (by simp))
   exact⟨w',r',h1,h2⟩
 .rw[hgst id hu hid];obtain⟨hb,hin,hlk⟩:=hs id b hid hsb
  by_cases hm:m=0
  .refine⟨w,Qr r nid ⟨0,0,ks.length,0,true,base,λ_=>False⟩,?_,?_⟩
   .rw[none_ base hn0 hden hm,hn0,hm];simp[AV.den,Loc.base,Loc.room,Qr]
   .have e0:n+m=0:=by omega
    rw[e0];exact Qq.moved hin (λj hj=>by unfold Qr;rw[if_neg (qP hj)]) hlk QRN (Fr.refl w _) λk hk=>by simp[Qg,Qr]at hk
  .subst hn0
   obtain⟨w',r',h1,h2,h3⟩:=grow base [] 0 rfl hden (by simp) rfl (by simp) (by omega) (by
    cases base with
    | none=>exact run_firstCells_none w.drew i.size 0 0 0
    | some a=>exact run_firstCells_some w.drew i.size 0 a 0 0 [] (by simp) (by simp))
   refine⟨w',r',h1,Qq.moved hin h2.same hlk (h2.rep (nid,_) (by simp)) ⟨h2.fr.os,h2.fr.tape,h2.fr.output,h2.fr.size,h2.fr.drawn,λk hk _=>h2.fr.block k hk ?_⟩ (λk hk=>.inr (h3 k hk))⟩
   rintro⟨p,hpm,hin',_⟩;simp only[List.mem_singleton]at hpm;subst hpm;rw[ZF]at hin';cases hin'
 .rw[hgst id hu hid];obtain⟨hb,hin,hlk⟩:=hs id b hid hsb;have hLs:=hrep.2.2.1
  by_cases hroom:n+m<=cap
  .obtain⟨h1,h2⟩:=QDy hrep (news:=Q6 m (QW ks hh)) hnl (len:=L.length) (qlr _) (by rw[JI];omega)
   have hrun:=run_append_room_src (P:=P) w t tx ty e i ht hi (r id).blk 0 n cap (x.den r) _ _ hsrc hroom (λj hj=>by rw[Nat.zero_add,<-hL];exact(h2 j hj).1) (λj hj=>by rw[Nat.zero_add,<-hL];exact(h2 j hj).2)
   rw[Nat.zero_add]at hrun;rw[List.take_length,List.drop_of_length_le (by omega),List.append_nil,hL]at h1
   obtain⟨j1,j2⟩:=joined (Qr r nid { r id with cap:=cap,nil:=false,foot:=λk=>k=(r id).blk }) L hL (λj y hy=>by
     have hyf:AV.allL (λ_=>false) y=true:=by
      rw[List.all_eq_true]at hLf;exact Xh (hLf y (List.mem_of_getElem? hy))
     rw[denL_congr (p:=λ_=>false) (r':=r) (λ_ hf=>by cases hf) y hyf,denL_congr (p:=λ_=>false) (r':=r) (λ_ hf=>by cases hf) (QW ks g j) (Xh (l:=QW ks g j) (J6 _ _ _))]
     exact hLg j y hy)
   refine⟨w.setCells (r id).blk (n*i.size) (AV.denL r (Q6 m (QW ks hh)).flatten),Qr r nid { r id with cap:=cap,nil:=false,foot:=λk=>k=(r id).blk },?_,?_⟩
   .rw[hden,hrun];simp[AV.den,Loc.base,Loc.room,Cap.den,Qr,hrep.1]
   .refine Qq.moved hin (λj hj=>by unfold Qr;rw[if_neg (qP hj)]) hlk ?_ ?_ (λk hk=>.inl ((hft k).2 (by simpa[Qg,Qr]using hk)))
    .have hrl:QL (Qr r nid { r id with cap:=cap,nil:=false,foot:=λk=>k=(r id).blk }) nid (w.setCells (r id).blk (n*i.size) (AV.denL r (Q6 m (QW ks hh)).flatten)) (.rowl e ks.length (L++Q6 m (QW ks hh))):=by
      obtain⟨b1,b2,b3,b4,rest,b5,b6⟩:=h1;rw[hkl];refine⟨by simp[Qr,b1],by simp[Qr,b2],b3,by simp only[Qr,if_true];rw[j1];exact hroom,rest,?_,?_⟩
      .simp only[Qr,if_true];exact Nat.le_trans (Nat.mul_le_mul_right _ (Nat.sub_le_sub_right hcap _)) b5
      .have hall:(L++Q6 m (QW ks hh)).all JX=true:=by rw[List.all_append,hLf,hnf];rfl
       have hcl:AV.allL (λ_=>false) (L++Q6 m (QW ks hh)).flatten=true:=by
        apply YU;rw[List.all_eq_true]at hall ⊢;exact λy hy=>Xh (hall y hy)
       rw[denL_congr (p:=λ_=>false) (r':=r) (λ_ hf=>by cases hf) _ hcl]
       simp only[Qr,if_true];exact b6
     exact QAP hrl (by simp[Qr]) (λk=>by simp[Qr]) j1 j2 (λi _=>J6 _ _ _)
    .have:=QCP w (r id).blk (n*i.size) (AV.denL r (Q6 m (QW ks hh)).flatten);exact⟨this.os,this.tape,this.output,this.size,this.drawn,λk hk hc=>this.block k hk λe=>hc ((hft k).2 e)⟩
  .obtain⟨w',r',h1,h2,h3⟩:=grow _ L cap hL hden hLs hLf hLg (by omega) (by
    have hl:(AV.denL r L.flatten).length=n*i.size:=by rw[KO,X0 i.size L hLs,hL]
    obtain⟨b1,b2,b3,b4,rest,b5,b6⟩:=hrep
    exact run_firstCells_some w.drew i.size n _ n cap _ hl (λj u hu=>by
     rw[V2,Nat.zero_add];show w.cell? _=_;rw[YK b6,List.getElem?_append_left (List.getElem?_eq_some_iff.1 hu).1];exact hu))
   refine⟨w',r',h1,Qq.moved hin h2.same hlk (h2.rep (nid,_) (by simp)) ⟨h2.fr.os,h2.fr.tape,h2.fr.output,h2.fr.size,h2.fr.drawn,λk hk _=>h2.fr.block k hk ?_⟩ (λk hk=>.inr (h3 k hk))⟩
   rintro⟨p,hpm,hin',_⟩;simp only[List.mem_singleton]at hpm;subst hpm;rw[ZF]at hin';cases hin'
