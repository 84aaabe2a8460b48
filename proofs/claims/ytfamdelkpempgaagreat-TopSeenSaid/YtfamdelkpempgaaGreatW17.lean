/- Maps whose values are rows that are owned too. -/
import Derived.Test.YtfamdelkpempgaaGreatW7
set_option linter.unusedSimpArgs false
set_option linter.unusedVariables false
set_option linter.unusedSectionVars false
open Option renaming some→Ob,none→Oe
open Bool renaming false→Oc,true→Od
namespace Go.Ai.Sx
def mdel {A B:Type} [DecidableEq A]:List (A×B)->A->List (A×B)
 | [],_=>[]
 | (k,v)::es,x=>if x=k then es else (k,v)::mdel es x
def zm5 {K A:Type} (P:zb->List A->Prop):List (K×zb)->List (K×List A)->Prop
 | [],[]=>True
 | (k,v)::es,(k',ys)::xs=>k=k'/\P v ys/\zm5 P es xs
 | _,_=>False
theorem zm5.imp {K A:Type} {P Q:zb->List A->Prop}:∀ {es:List (K×zb)} {xs:List (K×List A)},(∀ p,p∈es->∀ ys,P p.2 ys->Q p.2 ys)->zm5 P es xs->zm5 Q es xs
 | [],[],_,_=>trivial
 | [],_::_,_,h=>h
 | _::_,[],_,h=>h
 | (k,v)::es,(k',ys)::xs,f,h=>⟨h.1,f _ (List.mem_cons_self ..) _ h.2.1,zm5.imp (λp hp=>f p (List.mem_cons_of_mem _ hp)) h.2.2⟩
def mblk {K:Type} (es:List (K×zb)):List Nat:=es.flatMap λp=>(zhy p.2).toList
def mpack {K A:Type} (R:Rep A) (es:List (K×zb)) (xs:List (K×List A)):Obj:=
 .cb (mblk es) (λz h=>zm5 (λv ys=>(Obj.row R ys).ok z h v) es xs)
theorem zf1 {K A:Type} {R:Rep A} {es:List (K×zb)} {xs:List (K×List A)} {u:zb}:zfl (u,mpack R es xs)=mblk es:=rfl
theorem zj6 {K A:Type} {R:Rep A} {es:List (K×zb)} {xs:List (K×List A)} {u:zb} {z:Store} {h:za} (h1:zm5 (λv ys=>(Obj.row R ys).ok z h v) es xs):(mpack R es xs).ok z h u:=by
 refine ⟨h1,λz z' h h' hz hb q=>zm5.imp (λp hp ys g=>?_) q⟩;exact Obj.ok_mono (o:=.row R ys) hz (λb hb'=>hb b (List.mem_flatMap.2 ⟨p,hp,hb'⟩)) g
theorem zf2 {K A:Type} {R:Rep A} {es:List (K×zb)} {xs:List (K×List A)} {u:zb} {z:Store} {h:za} (q:(mpack R es xs).ok z h u):zm5 (λv ys=>(Obj.row R ys).ok z h v) es xs:=by
 simp only [mpack,Obj.ok] at q;exact q.1
def zrA {K A:Type} (es:List (K×zb)) (xs:List (K×List A)):Prop:=zm5 (λ_ _=>True) es xs
theorem mtake {K A:Type} [DecidableEq K] {P:zb->List A->Prop} {k:K} (hn:P .nsz []):∀ {es:List (K×zb)} {xs:List (K×List A)},zm5 P es xs ->
    P ((mget es k).getD .nsz) ((mget xs k).getD [])/\zm5 P (mdel es k) (mdel xs k)/\(mblk es).Perm ((zhy ((mget es k).getD .nsz)).toList++mblk (mdel es k))
  | [],[],h=>⟨hn,h,.refl _⟩
  | [],_::_,h=>h.elim
  | _::_,[],h=>h.elim
  | (a,v)::es,(a',ys)::xs,h=>by
    obtain ⟨rfl,h1,h2⟩:=h;by_cases e:k=a
    · simp only [mget,mdel,if_pos e,Option.getD_some];exact ⟨h1,h2,by simp only [mblk,List.flatMap_cons]; exact .refl _⟩
    · simp only [mget,mdel,if_neg e];obtain ⟨g1,g2,g3⟩:=mtake (k:=k) hn h2;refine ⟨g1,⟨rfl,h1,g2⟩, ?_⟩;simp only [mblk,List.flatMap_cons] at g3 ⊢;refine (List.Perm.append_left _ g3).trans ?_;rw [← List.append_assoc,← List.append_assoc];exact List.Perm.append_right _ List.perm_append_comm
theorem mput {K A:Type} [DecidableEq K] {P:zb->List A->Prop} {k:K} {w:zb} {ws:List A} (hw:P w ws):∀ {es:List (K×zb)} {xs:List (K×List A)},zrA es xs->zm5 P (mdel es k) (mdel xs k) ->
    zm5 P (mset es k w) (mset xs k ws)/\(mblk (mset es k w)).Perm ((zhy w).toList++mblk (mdel es k))
  | [],[],_,_=>⟨⟨rfl,hw,trivial⟩,.refl _⟩
  | [],_::_,h,_=>h.elim
  | _::_,[],h,_=>h.elim
  | (a,v)::es,(a',ys)::xs,hk,h=>by
    obtain ⟨rfl,_,hk⟩:=hk;by_cases e:k=a
    · simp only [mset,mdel,if_pos e] at h ⊢;exact ⟨⟨rfl,hw,h⟩,by simp only [mblk,List.flatMap_cons]; exact .refl _⟩
    · simp only [mset,mdel,if_neg e] at h ⊢;obtain ⟨_,h1,h2⟩:=h;obtain ⟨g1,g2⟩:=mput (k:=k) hw hk h2;refine ⟨⟨rfl,h1,g1⟩, ?_⟩;simp only [mblk,List.flatMap_cons] at g2 ⊢;refine (List.Perm.append_left _ g2).trans ?_;rw [← List.append_assoc,← List.append_assoc];exact List.Perm.append_right _ List.perm_append_comm
section
variable {K:Type} [DecidableEq K]
variable {C:Ctx} {T:Tab} {d:Option (List Nat)} {ops rest:List Oper} {M:Env} {L:Own} {Q:zg->za->Prop} {P:zaC->zg->za->Prop} {o:Oper} {t:Nat} {z:Store} {fr:zg} {h:za}
theorem zt4 (K:Type) {A:Type} (R:Rep A):∀ z fr h,StZ C M L z fr h->∃ z',z.le z'/\StZ C M ((.undef,mpack R ([]:List (K×zb)) [])::L) z' fr h:=λz fr h s=>
 ⟨z,.refl _,s.repack (by rw [zP,zf1]; exact .refl _) (λp hp=>by
  rcases List.mem_cons.1 hp with rfl | hp
  ·exact zj6 trivial
  ·exact s.own.ok p hp)⟩
theorem zrB {A:Type} {R:Rep A} {z:Store} {h:za}:(Obj.row R []).ok z h .nsz:=
 ⟨Nat.zero_le _,.inl ⟨rfl,rfl⟩⟩
theorem zwf {A:Type} {R:Rep A} {u:zb} {es:List (K×zb)} {xs:List (K×List A)} {x:K} (k:Nat) {L':Own} (hk:L[k]?=Ob (u,mpack R es xs)) (hL:zcW L k=Ob L') :
 ∀ z fr h,StZ C M L z fr h->∃ z',z.le z'/\StZ C M (((mget es x).getD .nsz,.row R ((mget xs x).getD []))::(u,mpack R (mdel es x) (mdel xs x))::L') z' fr h:=λz fr h s=>by
 have hp:=zcO hk hL;have hq:=zf2 (s.own.ok _ (List.mem_of_getElem? hk));obtain ⟨g1,g2,g3⟩:=mtake (k:=x) zrB hq;refine ⟨z,.refl _,s.repack ?_ (λp hp'=>?_)⟩
 . refine List.Perm.trans ?_ (zgw hp);rw [zP,zP,zP,zf1,zf1,← List.append_assoc];exact List.Perm.append_right _ g3.symm
 . rcases List.mem_cons.1 hp' with rfl | hp'
   . exact g1
   . rcases List.mem_cons.1 hp' with rfl | hp'
     . exact zj6 g2
     . exact s.own.ok p (hp.mem_iff.1 (List.mem_cons_of_mem _ hp'))
theorem zy5 {A:Type} {R:Rep A} {u v:zb} {es:List (K×zb)} {xs:List (K×List A)} {ws:List A} {x:K} (k m:Nat) {L' L'':Own} (hx:zrA es xs) (hk:L[k]?=Ob (v,.row R ws)) (hL:zcW L k=Ob L') (hm:L'[m]?=Ob (u,mpack R (mdel es x) (mdel xs x))) (hL':zcW L' m=Ob L'') :
 ∀ z fr h,StZ C M L z fr h->∃ z',z.le z'/\StZ C M ((u,mpack R (mset es x v) (mset xs x ws))::L'') z' fr h:=λz fr h s=>by
 have hp:=zcO hk hL;have hp':=zcO hm hL';have hmem:(u,mpack R (mdel es x) (mdel xs x))∈L:=hp.mem_iff.1 (List.mem_cons_of_mem _ (List.mem_of_getElem? hm));obtain ⟨g1,g2⟩:=mput (k:=x) (w:=v) (ws:=ws) (P:=λv ys=>(Obj.row R ys).ok z h v) (s.own.ok _ (List.mem_of_getElem? hk)) hx (zf2 (s.own.ok _ hmem));refine ⟨z,.refl _,s.repack ?_ (λp hp''=>?_)⟩
 . refine List.Perm.trans ?_ (zgw hp);rw [zP,zP];refine List.Perm.trans ?_ (List.Perm.append_left _ (zgw hp'));rw [zP,zf1,zf1,← List.append_assoc];exact List.Perm.append_right _ g2
 . rcases List.mem_cons.1 hp'' with rfl | hp''
   . exact zj6 g1
   . exact s.own.ok p (hp.mem_iff.1 (List.mem_cons_of_mem _ (hp'.mem_iff.1 (List.mem_cons_of_mem _ hp''))))
theorem zt5 {et:TypeId} (h:zeJ T et=Ob .nsz):Zr T et zjD .nsz:=⟨⟨.nsz,h,λ_=>⟨⟨rfl,rfl,rfl⟩,rfl⟩⟩⟩
def zjM {K B:Type}:List (K×B)->List zb->List (K×zb)
 | (k,_)::xs,v::hs=>(k,v)::zjM xs hs
 | _,_=>[]
def hset {K B:Type} [DecidableEq K]:List (K×B)->List zb->K->zb->List zb
 | (a,_)::xs,h::hs,k,v=>if k=a then v::hs else h::hset xs hs k v
 | _,_,_,v=>[v]
theorem zt6 {A:Type} {k:K} {v:zb} {ws:List A}:∀ {xs:List (K×List A)} {hs:List zb},zrA (zjM xs hs) xs->zjM (mset xs k ws) (hset xs hs k v)=mset (zjM xs hs) k v
 | [],_,_=>by simp only [mset,zjM,hset]
 | _::_,[],h=>h.elim
 | (a,ys)::xs,u::hs,h=>by
  obtain ⟨_,_,h⟩:=h;by_cases e:k=a
  . simp only [mset,zjM,hset,if_pos e]
  . simp only [mset,zjM,hset,if_neg e,zt6 h]
theorem zy6 {A:Type} {Kq:Rep K} {R:Rep A} {mt et:TypeId} {m x:Operand} {b:Nat} {es:List (K×zb)} {xs:List (K×List A)} {i:K} {u:zb} (kk mm:Nat) (hm:Mp T mt Kq et) (hz:Zr T et zjD .nsz) (hk:L[kk]?=Ob (.map b,.mp Kq zjD es)) {L1 L':zb->Own} (hL1:∀ v,zeQ L kk (.map b,.mp Kq zjD (mset es i v))=Ob (L1 v)) (hp:∀ v,(L1 v)[mm]?=Ob (u,mpack R es xs)) (hL:∀ v,zcW (L1 v) mm=Ob (L' v)) (hw:Want ops M Od o.guard) (ho:o.op=.mapEntry mt m x) (hd:o.dst=Ob t)
    (hmx:Opd M m (.raw (.map b))) (hx:Opd M x (.val Kq i)) (r:zrA es xs->∀ v,zr C T d ops rest ((t,.tup [.raw v,.raw (.int .i64 (mpos es i:Int))])::M) ((v,.row R ((mget xs i).getD []))::(u,mpack R (mdel es i) (mdel xs i))::L' v) Q):zr C T d ops (o::rest) M L Q:=by
  refine zzT kk hm hz hk hw ho hd hmx hx (hL1 _) ?_;refine zzP (F:=zrA es xs) (λ_ _ _ s=>zm5.imp (λ_ _ _ _=>trivial) (zf2 (s.own.ok _ (List.mem_of_getElem? (hp _))))) λhK=>?_;refine zem (zwf (x:=i) mm (hp _) (hL _)) ?_;refine zem (M':=(t,.tup [.raw ((mget es i).getD .nsz),.raw (.int .i64 (mpos es i:Int))])::M) (λz fr h s=>⟨z,.refl _,{ s with fr:=λn e q=>?_ }⟩) (r hK _);have h1:=s.fr t _ (by simp only [look,Nat.beq_refl]; rfl);simp only [TE.ok,zG] at h1;simp only [look] at q;cases hb:Nat.beq t n with
  | true=>
    rw [hb] at q;cases q;have:=Nat.eq_of_beq_eq_true hb;subst this;obtain ⟨vs,e1,v1,vs1,e2,g1,v2,vs2,e3,g2,g3⟩:=h1;simp only [TE.ok,zG];exact ⟨vs,e1,v1,vs1,e2,zsr g1,v2,vs2,e3,g2,g3⟩
  | false=>
    rw [hb] at q;exact s.fr n e (by simp only [look,hb]; exact q)
theorem zt7 {A:Type} {Kq:Rep K} {R:Rep A} {mt:TypeId} {m x y:Operand} {b:Nat} {xs:List (K×List A)} {hs:List zb} {i:K} {v v0 u:zb} {ws:List A} (kk k n:Nat) (hx0:zrA (zjM xs hs) xs) (ho:o.op=.entryStore mt m x y) (hk:L[kk]?=Ob (.map b,.mp Kq zjD (mset (zjM xs hs) i v0))) (hw:Want ops M Od o.guard) (hd:o.dst=Oe)
 (hmx:Opd M m (.raw (.map b))) (hx:Opd M x (.raw (.int .i64 (mpos (zjM xs hs) i:Int)))) (hy:Opd M y (.val zjD v)) {L1 L2 L3:Own} (hL:zeQ L kk (.map b,.mp Kq zjD (zjM (mset xs i ws) (hset xs hs i v)))=Ob L1) (hk1:L1[k]?=Ob (v,.row R ws)) (hL1:zcW L1 k=Ob L2) (hn:L2[n]?=Ob (u,mpack R (mdel (zjM xs hs) i) (mdel xs i))) (hL2:zcW L2 n=Ob L3)
 (r:zr C T d ops rest M ((u,mpack R (zjM (mset xs i ws) (hset xs hs i v)) (mset xs i ws))::L3) Q):zr C T d ops (o::rest) M L Q:=by
 rw [zt6 hx0] at hL r;exact zuZ kk hk hw ho hd hmx hx hy hL (zem (zy5 (x:=i) k n hx0 hk1 hL1 hn hL2) r)
theorem StZ.freezeRows {A:Type} {R:Rep A} {u:zb}:∀ {es:List (K×zb)} {xs:List (K×List A)} {z:Store},StZ C M ((u,mpack R es xs)::L) z fr h->∃ z',z.le z'/\StZ C M L z' fr h/\zm5 (λv ys=>zgO R z' v ys) es xs
 | [],[],z,s=>⟨z,.refl _,s.drop (k:=0) rfl,trivial⟩
 | [],_::_,z,s=>(zf2 (s.own.ok _ (List.mem_cons_self ..))).elim
 | _::_,[],z,s=>(zf2 (s.own.ok _ (List.mem_cons_self ..))).elim
 | (a,v)::es,(a',ys)::xs,z,s=>by
  obtain ⟨rfl,g1,g2⟩:=zf2 (s.own.ok _ (List.mem_cons_self ..));have s1:StZ C M ((v,.row R ys)::(u,mpack R es xs)::L) z fr h:=s.repack (by
   rw [zP,zP,zP,zf1,zf1,← List.append_assoc];simp only [mblk,List.flatMap_cons];exact .refl _) (λp hp=>by
   rcases List.mem_cons.1 hp with rfl | hp
   ·exact g1
   ·rcases List.mem_cons.1 hp with rfl | hp
    ·exact zj6 g2
    ·exact s.own.ok p (List.mem_cons_of_mem _ hp))
  obtain ⟨z1,h1,s2,r1⟩:=s1.freeze (k:=0) rfl rfl;obtain ⟨z2,h2,s3,r2⟩:=freezeRows s2;exact ⟨z2,h1.trans h2,s3,rfl,zgR ((zbo r1).mono h2),r2⟩
theorem zk3 {A:Type} {Kq:Rep K} {R:Rep A} {z:Store}:∀ {l:List (zb×zb)} {es:List (K×zb)} {xs:List (K×List A)},zg5 Kq zjD z l es->zm5 (λv ys=>zgO R z v ys) es xs->zg5 Kq (ze R) z l xs
 | [],[],[],h,_=>⟨rfl,λi p q hp=>by simp at hp⟩
 | [],[],_::_,_,g=>g.elim
 | [],_::_,_,h,_=>by have:=h.1; simp at this
 | _::_,[],_,h,_=>by have:=h.1; simp at this
 | _::_,_::_,[],_,g=>g.elim
 | (kv,v)::l,(a,w)::es,(a',ys)::xs,h,g=>by
  obtain ⟨rfl,g1,g2⟩:=g;obtain ⟨⟨h1,h2⟩,h3⟩:=zcl.1 h;have:v=w:=zsr h2;subst this;exact zcl.2 ⟨⟨h1,zbo g1⟩,zk3 h3 g2⟩
theorem zrC {A:Type} {Kq:Rep K} {R:Rep A} {u:zb} {b:Nat} {es:List (K×zb)} {xs:List (K×List A)} (k m:Nat) {L1 L2:Own} (hm:L[m]?=Ob (u,mpack R es xs)) (hL:zcW L m=Ob L1) (hk:L1[k]?=Ob (.map b,.mp Kq zjD es)) (hL':zcW L1 k=Ob L2) :
 ∀ z fr h,StZ C M L z fr h->∃ z',z.le z'/\StZ C M ((.map b,.mp Kq (ze R) xs)::L2) z' fr h:=λz fr h s=>by
 have hp:=zcO hm hL;have s0:StZ C M ((u,mpack R es xs)::L1) z fr h:=s.repack (zgw hp) (λp q=>s.own.ok p (hp.mem_iff.1 q));obtain ⟨z',hz,s1,r⟩:=s0.freezeRows;have hp':=zcO hk hL';refine ⟨z',hz,s1.repack ?_ (λp q=>?_)⟩
 . refine List.Perm.trans ?_ (zgw hp');rw [zP,zP];exact .refl _
 . rcases List.mem_cons.1 q with rfl | q
   . have ho:=s1.own.ok _ (List.mem_of_getElem? hk);simp only [Obj.ok] at ho ⊢;obtain ⟨b',l,e,h2,h3,h5⟩:=ho;obtain ⟨q1,q2⟩:=zk3 (Kq:=Kq) (R:=R) (z:=z') ⟨h3,h5⟩ r;exact ⟨b',l,e,h2,q1,q2⟩
   . exact s1.own.ok p (hp'.mem_iff.1 (List.mem_cons_of_mem _ q))
end
section
variable {C:Ctx} {T:Tab} {M:Env} {L:Own} {z:Store} {fr:zg} {h:za}
structure LC (L:Own) {A:Type} (R:Rep A) (a:A) (es:List TE):Prop where
 ok:∀ {C:Ctx} {M:Env} {z:Store} {fr:zg} {h:za},StZ C M L z fr h->∀ cs,zG z es cs->R.rel h.st cs a
theorem zwO {A:Type} {R:Rep A} {a:A} {es:List TE} (hc:Cells R a es):LC L R a es:=
 ⟨λs cs q=>R.mono _ _ _ _ (zmx s.sub) ((hc _ cs).2 q)⟩
theorem zia {z:Store}:∀ {n:Nat} {es:List TE} {cs:List zb},zG z es cs->zG z (es.take n) (cs.take n)/\zG z (es.drop n) (cs.drop n)
 | 0,es,cs,h=>by simp only [List.take_zero,List.drop_zero,zG]; exact ⟨trivial,h⟩
 | n+1,[],cs,h=>by simp only [zG] at h; subst h; simp [zG]
 | n+1,e::es,cs,h=>by
  simp only [zG] at h;obtain ⟨v,vs,rfl,h1,h2⟩:=h;obtain ⟨g1,g2⟩:=zia (n:=n) h2;simp only [List.take_succ_cons,List.drop_succ_cons,zG];exact ⟨⟨v,_,rfl,h1,g1⟩,g2⟩
theorem zm6 {A B:Type} {R:Rep A} {S:Rep B} {x:A×B} {es:List TE} (n:Nat) (h1:LC L R x.1 (es.take n)) (h2:LC L S x.2 (es.drop n)):LC L (zI R S) x es:=
 ⟨λs cs q=>⟨cs.take n,cs.drop n,(List.take_append_drop n cs).symm,h1.ok s _ (zia q).1,h2.ok s _ (zia q).2⟩⟩
theorem zy7:LC L zcS () []:=⟨λ_ cs q=>by simp only [zG] at q; subst q; rfl⟩
theorem zoA {A:Type} {R:Rep A} {xs:List A} {v:zb} (s:StZ C M L z fr h) (ho:(Obj.row R xs).ok z h v) (hb:∀ b,b∈(zhy v).toList->b<h.next):zgO R h.st v xs:=by
 simp only [Obj.ok] at ho;refine ⟨ho.1, ?_⟩;rcases ho.2 with ⟨q,e⟩ | ⟨b,off,cap,cells,q,h2,h3,h4,h5⟩
 . exact .inl ⟨q,e⟩
 . subst q;exact .inr (.inr ⟨b,off,cap,cells,Oc,rfl,za.st_of (hb b (by simp [zhy])) h2,h3,λc hc=>(h4 c hc).1,λi x hx=>R.mono _ _ _ _ (zmx s.sub) (h5 i x hx)⟩)
theorem zwg {A:Type} {R:Rep A} {z:Store} {v:zb} {x:A} (h:TV R z v x) (ho:v.isAgg=Oc):R.rel z [v] x:=by
 have:=h.rel;cases v<;>first | exact this | cases ho
theorem zAD {A:Type} {R:Rep A} {xs:List A} {v:zb} (k:Nat) (hk:L[k]?=Ob (v,.row R xs)):LC L (ze R) xs [.raw v]:=
 ⟨λ{_ _ z fr h} s cs q=>by
  simp only [zG,TE.ok] at q;obtain ⟨_,_,rfl,rfl,rfl⟩:=q;have ho:=s.own.ok _ (List.mem_of_getElem? hk);have hr:=zoA s ho (λb hb=>(s.own.out _ (List.mem_of_getElem? hk) b hb).2.1);refine zwg (zbo hr) ?_;simp only [Obj.ok] at ho;rcases ho.2 with ⟨e,_⟩ | ⟨b,off,cap,cells,e,_⟩<;>(rw [e]; rfl)⟩
theorem zoB {K A:Type} {R:Rep A}:∀ {es:List (K×zb)} {xs:List (K×List A)},StZ C M L z fr h->(∀ b,b∈mblk es->b<h.next)->zm5 (λv ys=>(Obj.row R ys).ok z h v) es xs->zm5 (λv ys=>zgO R h.st v ys) es xs
 | [],[],_,_,g=>g
 | [],_::_,_,_,g=>g
 | _::_,[],_,_,g=>g
 | _::_,_::_,s,hb,⟨g1,g2,g3⟩=>⟨g1,zoA s g2 (λb q=>hb b (by simp only [mblk,List.flatMap_cons]; exact List.mem_append_left _ q)),zoB s (λb q=>hb b (by simp only [mblk,List.flatMap_cons]; exact List.mem_append_right _ q)) g3⟩
theorem zAE {K A:Type} [DecidableEq K] {Kq:Rep K} {R:Rep A} {b:Nat} {u:zb} {es:List (K×zb)} {xs:List (K×List A)} (k m:Nat) (hk:L[k]?=Ob (.map b,.mp Kq zjD es)) (hm:L[m]?=Ob (u,mpack R es xs)):LC L (zoC Kq (ze R)) xs [.raw (.map b)]:=
 ⟨λ{_ _ z fr h} s cs q=>by
  simp only [zG,TE.ok] at q;obtain ⟨_,_,rfl,rfl,rfl⟩:=q;have ho:=s.own.ok _ (List.mem_of_getElem? hk);have hm':=zf2 (s.own.ok _ (List.mem_of_getElem? hm));simp only [Obj.ok] at ho;obtain ⟨b',l,e,h2,h3,h5⟩:=ho;cases e;have hb:=(s.own.out _ (List.mem_of_getElem? hk) b (by simp [zfl,zhy])).2.1;have hr:=zoB s (λb q=>(s.own.out _ (List.mem_of_getElem? hm) b q).2.1) hm';exact ⟨_,rfl,.inr ⟨b,l,rfl,za.st_of hb h2,zk3 (zg5.mono (zmx s.sub) ⟨h3,h5⟩) hr⟩⟩⟩
theorem zwh {A:Type} {R:Rep A} {a:A} {es:List TE} {b:Nat} {x:Operand} (k:Nat) (hx:Opd M x (.raw (.ptr b 0))) (hk:L[k]?=Ob (.ptr b 0,.box es)) (hc:LC L R a es):zwn C M L x (.val (zaO R) a):=λz fr h s=>by
 simp only [TE.ok];rw [hx.raw s.fr];have ho:=s.own.ok _ (List.mem_of_getElem? hk);simp only [Obj.ok] at ho;obtain ⟨b',cells,q,h2,h3,h4⟩:=ho;cases q;have hb:=(s.own.out _ (List.mem_of_getElem? hk) b (by simp [zfl,zhy])).2.1;have hr:=hc.ok s _ h3;have hl:=R.len _ _ _ hr;refine zfT ⟨b,0,cells,Oc,rfl,za.st_of hb h2,by omega, ?_⟩;rw [List.drop_zero,← hl,List.take_length];exact hr
end
end Go.Ai.Sx