/- Symbolic runs of the abstract interpreter: operations that write. -/
import Derived.Test.YtnngmijajnldlaaGreatX3
set_option linter.unusedSimpArgs false
set_option linter.unusedVariables false
set_option linter.unusedSectionVars false
open Option renaming some→Ob,none→Oe
open Bool renaming false→Oc,true→Od
namespace Go.Ai.Sx
structure Ty (T:Tab) (et:TypeId) {A:Type} (R:Rep A) (bytes:Nat):Prop where
 info:∃ i,T.types.get et=Ob i/\i.bytes=bytes/\i.size=R.sz
 zero:∃ zv,zeS T et=Ob zv/\zv.cells.length=R.sz
 pos:0<R.sz
structure Zr (T:Tab) (et:TypeId) {A:Type} (R:Rep A) (x:A):Prop where
 zero:∃ zv,zeS T et=Ob zv/\∀ z,TV R z zv x
section
variable {C:Ctx} {T:Tab} {d:Option (List Nat)} {ops rest:List Oper} {M:Env} {L:Own} {Q:zi->za->Prop} {P:zaQ->zi->za->Prop} {o:Oper} {t:Nat} {z:Store} {fr:zi} {h:za}
theorem zm2 {c:Code} {M':Env} {L':Own} (q:∀ z fr h,StZ C M L z fr h->∃ z',z.le z'/\StZ C M' L' z' fr h) (r:zeW C T c M' L' P):zeW C T c M L P:=λfr h ⟨z,s⟩=>by
 obtain ⟨z',_,s'⟩:=q z fr h s;exact r fr h ⟨z',s'⟩
theorem zbN {A:Type} (R:Rep A):∀ z fr h,StZ C M L z fr h->∃ z',z.le z'/\StZ C M ((.nsz,.row R [])::L) z' fr h:=λz _ _ s=>⟨z,.refl _,s.nilrow R⟩
theorem zgd {A:Type} {R:Rep A} {xs:List A} {v:zd} (k:Nat) (ts:List Nat) {L':Own} (hk:L[k]?=Ob (v,.row R xs)) (hL:zcR L k=Ob L') (hts:zir M v ts):∀ z fr h,StZ C M L z fr h->∃ z',z.le z'/\StZ C (zf2 ts (.val (zb R) xs) M) L' z' fr h:=by
 intro z fr h s;obtain ⟨z',hz,s',hr⟩:=s.freeze hk hL;exact ⟨z',hz,{ s' with fr:=zeI (by simp only [TE.ok]; exact zbU hr) hts s'.fr }⟩
theorem zzi {t:Nat} {e:TE} {L':Own} (hrd:Rd C d ops rest M L o) (hft:∀ z fr h,StZ C M L z fr h->zjo z h (foot fr.op o)) (hw:Want ops M Od o.guard) (hd:o.dst=Ob t) (H:∀ z fr h,StZ C M L z fr h->∃ v h' z',aop T fr.op h o.op=Ob (.val v h')/\z.le z'/\StZ C M L' z' fr h'/\e.ok z' v) (r:zm C T d ops rest ((t,e)::M) L' Q):zm C T d ops (o::rest) M L Q:=
 zfh hw hrd λz fr h s=>by
  obtain ⟨v,h',z',h1,hz,h2,h3⟩:=H z fr h s;exact ⟨v,h',z',_,_,h1,hft z fr h s,hz,by rw [hd,zaU]; exact h2.set h3,r⟩
theorem zpx {t:Nat} {e:zd->TE} {L':zd->Own} (hrd:Rd C d ops rest M L o) (hft:∀ z fr h,StZ C M L z fr h->zjo z h (foot fr.op o)) (hw:Want ops M Od o.guard) (hd:o.dst=Ob t) (H:∀ z fr h,StZ C M L z fr h->∃ v h' u,aop T fr.op h o.op=Ob (.val v h')/\StZ C M (L' u) z fr h'/\(e u).ok z v) (r:∀ u,zm C T d ops rest ((t,e u)::M) (L' u) Q):zm C T d ops (o::rest) M L Q:=
 zfh hw hrd λz fr h s=>by
  obtain ⟨v,h',u,h1,h2,h3⟩:=H z fr h s;exact ⟨v,h',z,_,_,h1,hft z fr h s,.refl _,by rw [hd,zaU]; exact h2.set h3,r u⟩
theorem zjp {L':Own} (hrd:Rd C d ops rest M L o) (hft:∀ z fr h,StZ C M L z fr h->zjo z h (foot fr.op o)) (hw:Want ops M Od o.guard) (hd:o.dst=Oe) (H:∀ z fr h,StZ C M L z fr h->∃ v h',aop T fr.op h o.op=Ob (.val v h')/\StZ C M L' z fr h') (r:zm C T d ops rest M L' Q):zm C T d ops (o::rest) M L Q:=
 zfh hw hrd λz fr h s=>by
  obtain ⟨v,h',h1,h2⟩:=H z fr h s;exact ⟨v,h',z,_,_,h1,hft z fr h s,.refl _,by rw [hd,zuo]; exact h2,r⟩
theorem zdE {cells vs:List zd} {off:Nat} (h:off+vs.length<=cells.length):(splice cells off vs).length=cells.length:=by
 unfold splice; simp; omega
theorem zg4 {cells vs:List zd} {off p n:Nat} (h:off+vs.length<=cells.length) (hd:p+n<=off\/off+vs.length<=p):((splice cells off vs).drop p).take n=(cells.drop p).take n:=by
 apply List.ext_getElem?;intro i;unfold splice;simp only [List.getElem?_take,List.getElem?_drop,List.getElem?_append,List.length_append,List.length_take];repeat' split
 all_goals (try omega)
 all_goals (first | rfl | (congr 1; omega))
theorem zkp {cells vs:List zd} {off p n k:Nat} (h:off+n<=cells.length) (hp:p=off+k) (hk:k+vs.length<=n):((splice cells p vs).drop off).take n=((cells.drop off).take n).take k++vs++((cells.drop off).take n).drop (k+vs.length):=by
 subst hp;apply List.ext_getElem?;intro i;unfold splice;simp only [List.getElem?_take,List.getElem?_drop,List.getElem?_append,List.length_append,List.length_take,List.length_drop];repeat' split
 all_goals (try omega)
 all_goals (first | rfl | (congr 1; omega) | (rw [List.getElem?_eq_none J]) | (symm; rw [List.getElem?_eq_none J]))
theorem znD {i j m:Nat} (h:i≠j):i*m+m<=j*m\/j*m+m<=i*m:=by
 rcases Nat.lt_or_gt_of_ne h with q | q
 . left; have:=Nat.mul_le_mul_right m (show i+1<=j from q); rw [Nat.add_mul] at this; omega
 . right; have:=Nat.mul_le_mul_right m (show j+1<=i from q); rw [Nat.add_mul] at this; omega
theorem zpy {A B:Type} {R:Rep A} {S:Rep B} {g:A->B} {w:A->B->A} {x y:Operand} {et:TypeId} {a:A} {b:B} {xs:List A} {v:zd} {i off:Nat} (k:Nat) (hu:Und T et S) (hf:FOk R off S g w) (hi:xs[i]?=Ob a) (hw:Want ops M Od o.guard) (ho:o.op=.store et x y) (hd:o.dst=Oe)
 (hx:Opd M x (.elt v i off)) (hy:Opd M y (.val S b)) (hk:L[k]?=Ob (v,.row R xs)) {L':Own} (hL:zfE L k (v,.row R (xs.set i (w a b)))=Ob L') (r:zm C T d ops rest M L' Q):zm C T d ops (o::rest) M L Q:=by
 have hfo:∀ z fr h,StZ C M L z fr h->foot fr.op o=⟨[],Oc,zS (fr.op x),Oc⟩:=λz fr h s=>by unfold foot; rw [ho]
 refine zjp (.w (by rw [ho]; rfl) (λt a q=>by rw [ho] at q; cases q) (by rw [ho]; rfl) (λq=>by rw [ho] at q; cases q)) (λz fr h s=>by
  rw [hfo z fr h s];refine ⟨λb hb=>(nomatch hb),λb hb=>?_⟩;have hp:=hx.ok s.fr;simp only [TE.ok] at hp;obtain ⟨bb,oo,len,es,cap,q,hp⟩:=hp;rw [hp] at hb;refine zfj s hk rfl b ?_;subst q;simpa [zS] using hb) hw hd (λz fr h s=>?_) r
 have hr:=s.own.ok _ (List.mem_of_getElem? hk);simp only [Obj.ok] at hr;have hp:=hx.ok s.fr;simp only [TE.ok] at hp;obtain ⟨bb,oo,len,es,cap,rfl,hp⟩:=hp;have hval:=hy.val s.fr;rcases hr.2 with ⟨q,_⟩ | ⟨b',off',cap',cells,q,h2,h3,h4,h5⟩
 . cases q
 . cases q;have h6:=zer h3 hi;have hfit:=hf.fit;have hlen:=S.len _ _ _ hval.rel;have hin:oo+i*R.sz+off+(fr.op y).cells.length<=cells.length:=J
   refine ⟨.tuple [],h.set bb (.arr (splice cells (oo+i*R.sz+off) (fr.op y).cells) Oc), ?_,s.upd hk rfl rfl _ ?_ hL⟩
   . rw [ho];simp only [aop,hp,astore,h2,hu.sz];rw [if_pos (by exact ⟨hlen,by omega,S.ones _ _ _ hval.rel⟩)];rfl
   . simp only [Obj.ok];refine ⟨by rw [List.length_set]; exact hr.1,.inr ⟨bb,oo,cap,splice cells (oo+i*R.sz+off) (fr.op y).cells,by rw [List.length_set],by rw [za.get_set,if_pos rfl],by rw [zdE hin,List.length_set]; exact h3,by rw [zdE hin,List.length_set]; exact h4,λj u hj=>?_⟩⟩;rw [List.getElem?_set] at hj;by_cases q:i=j
     . subst q;rw [if_pos rfl,if_pos (List.getElem?_eq_some_iff.1 hi).1] at hj;cases hj;rw [zkp (k:=off) h6 rfl J,hlen];exact hf.set _ _ _ _ _ (h5 _ _ hi) hval.rel
     . rw [if_neg q] at hj;rw [zg4 hin]
       . exact h5 _ _ hj
       . have:=znD (m:=R.sz) q; omega
theorem zeJ (n:Nat) (zc:List zd):(copies n zc).length=n*zc.length:=by
 induction n with
 | zero=>simp [copies]
 | succ n ih=>simp only [copies,List.length_append,ih,Nat.add_mul]; omega
theorem zg5 {n i:Nat} (zc:List zd) (h:i<n):((copies n zc).drop (i*zc.length)).take zc.length=zc:=by
 induction n generalizing i with
 | zero=>omega
 | succ n ih=>
  simp only [copies];cases i with
  | zero=>simp
  | succ i=>
   rw [List.drop_append,List.drop_eq_nil_of_le (by rw [Nat.add_mul]; omega),List.nil_append,Nat.add_mul,Nat.one_mul,Nat.add_sub_cancel];exact ih J
inductive Elts (M:Env) {A:Type} (R:Rep A):Nat->List (Nat×Operand)->List A->Prop where
 | n {i:Nat}:Elts M R i [] []
 | c {i:Nat} {x:Operand} {a:A} {ps:List (Nat×Operand)} {as:List A} (h:Opd M x (.val R a)) (r:Elts M R (i+1) ps as):Elts M R i ((i,x)::ps) (a::as)
theorem zkq {A:Type} {R:Rep A} {ps:List (Nat×Operand)} {as:List A} {i:Nat} (e:Elts M R i ps as) (hf:ziJ z M fr) (hp:0<R.sz):∀ (cells:List zd),cells.length=(i+as.length)*R.sz ->
    ∃ cells',afill (λi=>Ob (i*R.sz,R.sz)) cells (zds fr.op ps)=Ob cells'/\cells'.length=cells.length/\(∀ j,j<i->(cells'.drop (j*R.sz)).take R.sz=(cells.drop (j*R.sz)).take R.sz) /\
      ∀ j a,as[j]?=Ob a->R.rel z ((cells'.drop ((i+j)*R.sz)).take R.sz) a:=by
  induction e with
  | n=>intro cells _; exact ⟨cells,rfl,rfl,λ_ _=>rfl,by simp⟩
  | @c i x a ps as hx _ ih=>
    intro cells hl;have hv:=hx.val hf;have hlen:=R.len _ _ _ hv.rel;simp only [List.length_cons] at hl;have hin:i*R.sz+(fr.op x).cells.length<=cells.length:=by
      rw [hl,hlen];have:=Nat.mul_le_mul_right R.sz (show i+1<=i+(as.length+1) by omega);rw [Nat.add_mul] at this; omega
    have hdef:(fr.op x).defd=Od:=by
      have:=R.ones _ _ _ hv.rel;cases hq:fr.op x<;>rw [hq] at this<;>simp_all [zd.defd,zd.cells,zd.one]
    obtain ⟨c',h1,h2,h3,h4⟩:=ih (splice cells (i*R.sz) (fr.op x).cells) (by rw [zdE hin,hl]; congr 1; omega);refine ⟨c', ?_,by rw [h2,zdE hin],λj hj=>?_,λj a' hj=>?_⟩
    · simp only [zds,List.map,afill];rw [if_pos ⟨hdef,hlen,hin⟩];exact h1
    · rw [h3 j J,zg4 hin];have:=znD (m:=R.sz) (show i≠j by omega);have:=Nat.mul_le_mul_right R.sz (show j+1<=i from hj);rw [Nat.add_mul] at this;omega
    · cases j with
      | zero=>
        simp at hj; subst hj;rw [Nat.add_zero,h3 i J,zkp (n:=R.sz) (k:=0) J (Nat.add_zero _).symm J];have:((cells.drop (i*R.sz)).take R.sz).drop (0+(fr.op x).cells.length)=[]:=List.drop_eq_nil_of_le (by rw [List.length_take]; omega);rw [this];simpa using hv.rel
      | succ j=>
        have:=h4 j a' (by simpa using hj);rw [show i+(j+1)=i+1+j by omega]; exact this
theorem zzj {A:Type} {R:Rep A} {bytes:Nat} {st et:TypeId} {n:Nat} {parts:Array (Nat×Operand)} {as:List A} (hsl:Sl T st et R) (hty:Ty T et R bytes) (he:Elts M R 0 parts.toList as) (hn:as.length=n) (hb:n*R.sz<=2 ^ 24) (hf:ziJ z M fr) :
 ∃ cells,aop T fr.op h (.buildSlice st n parts)=Ob (.val (.slice h.next 0 n R.sz (Ob n)) (h.push (.arr cells Oc)))/\cells.length=n*R.sz/\∀ i x,as[i]?=Ob x->R.rel z ((cells.drop (i*R.sz)).take R.sz) x:=by
 obtain ⟨zv,h1,h2⟩:=hty.zero;obtain ⟨cells,h3,h4,_,h5⟩:=zkq he hf hty.pos (copies n zv.cells) (by rw [zeJ,h2,← hn]; simp);refine ⟨cells, ?_,by rw [h4,zeJ,h2],λi x hx=>by simpa using h5 i x hx⟩;simp only [aop,zd3,hsl.und,hsl.sz,Option.getD_some,zc8,h1];rw [if_neg J,if_neg (by have:=hty.pos; omega),if_pos h2,h3];rfl
theorem zCo {A:Type} {R:Rep A} {bytes:Nat} {st et:TypeId} {n:Nat} {parts:Array (Nat×Operand)} {as:List A} (hsl:Sl T st et R) (hty:Ty T et R bytes) (hw:Want ops M Od o.guard) (ho:o.op=.buildSlice st n parts) (hd:o.dst=Ob t) (he:Elts M R 0 parts.toList as) (hn:as.length=n) (hb:n*R.sz<=2 ^ 24)
 (r:zm C T d ops rest ((t,.val (zb R) as)::M) L Q):zm C T d ops (o::rest) M L Q:=by
 refine zzi (nf (by rw [ho]; rfl)) (λ_ _ _ _=>nfo (by rw [ho]; rfl)) hw hd (λz fr h s=>?_) r;obtain ⟨cells,h1,h2,h3⟩:=zzj (h:=h) hsl hty he hn hb s.fr;refine ⟨_,_,z.add h.next (.arr cells Oc),by rw [ho]; exact h1,ziq s.next_none,s.push _, ?_⟩;simp only [TE.ok];refine zbU ⟨?_,.inr (.inr ⟨h.next,0,_,cells,Oc,by rw [hn],zg3,by rw [hn]; omega,λc hc=>by cases hc; omega,λi x hx=>?_⟩)⟩
 . have:=Nat.mul_le_mul_left as.length hty.pos;rw [hn] at this ⊢;simp only [maxLen]; omega
 . rw [Nat.zero_add]; exact R.mono _ _ _ _ (ziq s.next_none) (h3 i x hx)
theorem zA9 {A:Type} {R:Rep A} {bytes:Nat} {st et:TypeId} {n:Nat} {parts:Array (Nat×Operand)} {as:List A} (hsl:Sl T st et R) (hty:Ty T et R bytes) (hw:Want ops M Od o.guard) (ho:o.op=.buildSlice st n parts) (hd:o.dst=Ob t) (he:Elts M R 0 parts.toList as) (hn:as.length=n) (hb:n*R.sz<=2 ^ 24)
 (r:∀ v,zm C T d ops rest ((t,.raw v)::M) ((v,.row R as)::L) Q):zm C T d ops (o::rest) M L Q:=by
 refine zpx (e:=λv=>.raw v) (L':=λv=>(v,.row R as)::L) (nf (by rw [ho]; rfl)) (λ_ _ _ _=>nfo (by rw [ho]; rfl)) hw hd (λz fr h s=>?_) r;obtain ⟨cells,h1,h2,h3⟩:=zzj (h:=h) hsl hty he hn hb s.fr;refine ⟨_,_,.slice h.next 0 n R.sz (Ob n),by rw [ho]; exact h1,s.pushOwn _ rfl ?_,by simp only [TE.ok]⟩;simp only [Obj.ok];refine ⟨?_,.inr ⟨h.next,0,_,cells,by rw [hn],by rw [za.get_push,if_pos rfl],by rw [hn]; omega,λc hc=>by cases hc; omega,λi x hx=>?_⟩⟩
 . have:=Nat.mul_le_mul_left as.length hty.pos;rw [hn] at this ⊢;simp only [maxLen]; omega
 . rw [Nat.zero_add]; exact h3 i x hx
def mkO {A:Type} (bytes:Nat) (n:Int) (x:A):Option (List A):=if 0<=n/\(bytes:Int)*n<=2 ^ 47/\n<=2 ^ 62 then Ob (List.replicate n.toNat x) else Oe
theorem zB9 {A:Type} {R:Rep A} {bytes:Nat} {st et:TypeId} {x:A} {l c:Operand} {n:Int} {xs:List A} (hsl:Sl T st et R) (hty:Ty T et R bytes) (hz:Zr T et R x) (hm:mkO bytes n x=Ob xs) (hw:Want ops M Od o.guard) (ho:o.op=.makeSlice st l c) (hd:o.dst=Ob t) (hl:Opd M l (.val (zh .i64) n)) (hc:Opd M c (.val (zh .i64) n))
 (r:∀ v,zm C T d ops rest ((t,.raw v)::M) ((v,.row R xs)::L) Q):zm C T d ops (o::rest) M L Q:=by
 unfold mkO at hm;split at hm
 case isFalse=>cases hm
 cases hm;rename_i hcond;refine zpx (e:=λv=>.raw v) (L':=λv=>(v,.row R _)::L) (nf (by rw [ho]; rfl)) (λ_ _ _ _=>nfo (by rw [ho]; rfl)) hw hd (λz fr h s=>?_) r;obtain ⟨i,h1,h2,h3⟩:=hty.info;obtain ⟨zv,h4,h5⟩:=hz.zero;have h5:=h5 z;have hlen:=R.len _ _ _ h5.rel;refine ⟨.slice h.next 0 n.toNat R.sz (Ob n.toNat),h.push (.arr (copies n.toNat zv.cells) Oc),.slice h.next 0 n.toNat R.sz (Ob n.toNat), ?_,s.pushOwn _ rfl ?_,by simp only [TE.ok]⟩
 . rw [ho];simp only [aop,hl.int s.fr,hc.int s.fr,zeD,hsl.und,h1,h2];rw [if_pos ⟨hcond.1,Int.le_refl _,by simpa using hcond.2⟩];simp only [zc8,hsl.sz,h4];rw [if_neg (by have:=hty.pos; omega),if_pos hlen];rfl
 . simp only [Obj.ok];have hcl:(copies n.toNat zv.cells).length=n.toNat*R.sz:=by rw [zeJ,hlen]
   refine ⟨by rw [List.length_replicate]; simp only [maxLen]; omega,.inr ⟨h.next,0,_,copies n.toNat zv.cells,by rw [List.length_replicate],by rw [za.get_push,if_pos rfl],by rw [List.length_replicate]; omega,λc hc=>by cases hc; rw [List.length_replicate]; omega,λi x' hx=>?_⟩⟩;have hi:=(List.getElem?_eq_some_iff.1 hx).1;rw [List.length_replicate] at hi;rw [List.getElem?_replicate,if_pos hi] at hx;cases hx;rw [Nat.zero_add,← hlen,zg5 _ hi];exact h5.rel
def zcY {A:Type} (bytes:Nat) (xs ys:List A):Option (List A):=if (xs.length+ys.length)*bytes<=2 ^ 46/\xs.length+ys.length<=2 ^ 62 then Ob (xs++ys) else Oe
theorem zut {A:Type} {R:Rep A} {v:zd} {ys:List A} (hr:zg0 R z v ys) (hsub:z.Sub h):lenOf v=ys.length/\∃ news,arow R.sz ys.length v h=Ob news/\news.length=ys.length*R.sz/\news.all zd.one=Od/\∀ i y,ys[i]?=Ob y->R.rel z ((news.drop (i*R.sz)).take R.sz) y:=by
 rcases hr.2 with ⟨rfl,rfl⟩ | ⟨b,off,cap,rfl,rfl,hg⟩ | ⟨b,off,cap,cells,ro,rfl,hg,hl,hcap,hx⟩
 . exact ⟨rfl,[],rfl,by simp,rfl,by simp⟩
 . exact ⟨rfl,[],by simp only [arow]; rfl,by simp,rfl,by simp⟩
 . refine ⟨rfl,(cells.drop off).take (ys.length*R.sz), ?_,by simp; omega, ?_,λi y hy=>?_⟩
   . simp only [arow,(hsub _ _ hg).1];by_cases h0:ys.length=0
     . rw [if_pos h0,if_pos trivial,h0]; simp
     . rw [if_neg h0,if_pos (by exact ⟨by trivial,Nat.le_refl _⟩),if_pos hl]
   . refine List.all_eq_true.2 λc hc=>?_;obtain ⟨j,hj,rfl⟩:=List.getElem_of_mem hc;simp only [List.length_take,List.length_drop] at hj;have hsz:0<R.sz:=by
      rcases Nat.eq_zero_or_pos R.sz with q | q
      . rw [q] at hj; omega
      . exact q
     have hi:j/R.sz<ys.length:=by rw [Nat.div_lt_iff_lt_mul hsz]; omega
     have h1:=R.ones _ _ _ (hx _ _ (List.getElem?_eq_getElem hi));rw [List.all_eq_true] at h1;refine h1 _ (List.mem_of_getElem? (i:=j%R.sz) ?_);have hm:=Nat.mod_lt j hsz;have e:=Nat.div_add_mod j R.sz;rw [Nat.mul_comm] at e;rw [List.getElem?_take,if_pos hm,List.getElem?_drop,Nat.add_assoc,e];simp
   . have h1:=hx i y hy;have h2:=zer (off:=0) (i:=i) (R:=R) (cells:=(cells.drop off).take (ys.length*R.sz)) Oj hy;rw [List.drop_take,List.take_take,List.drop_drop,Nat.min_eq_left]
     . exact h1
     . simp at h2; omega
theorem zr1 {l m:List zd} {p n:Nat} (h:p+n<=l.length):((l++m).drop p).take n=(l.drop p).take n:=by
 apply List.ext_getElem?;intro i;simp only [List.getElem?_take,List.getElem?_drop,List.getElem?_append];repeat' split
 all_goals (first | rfl | omega)
theorem zqG {l m:List zd} {p n:Nat} (h:l.length<=p):((l++m).drop p).take n=(m.drop (p-l.length)).take n:=by
 apply List.ext_getElem?;intro i;simp only [List.getElem?_take,List.getElem?_drop,List.getElem?_append];repeat' split
 all_goals (first | rfl | omega | (congr 1; omega))
theorem zuu {A:Type} {R:Rep A} {xs ys:List A} {old news:List zd} (ho:old.length=xs.length*R.sz) (hn:news.length=ys.length*R.sz) (h1:∀ (i:Nat) (x:A),xs[i]?=Ob x->R.rel z ((old.drop (i*R.sz)).take R.sz) x) (h2:∀ (i:Nat) (y:A),ys[i]?=Ob y->R.rel z ((news.drop (i*R.sz)).take R.sz) y) :
 ∀ (i:Nat) (x:A),(xs++ys)[i]?=Ob x->R.rel z (((old++news).drop (i*R.sz)).take R.sz) x:=by
 intro i x hi;rw [List.getElem?_append] at hi;split at hi
 . rename_i q;rw [zr1]
   . exact h1 i x hi
   . rw [ho]; have:=Nat.mul_le_mul_right R.sz (show i+1<=xs.length from q); rw [Nat.add_mul] at this; omega
 . rename_i q;have hq:xs.length*R.sz<=i*R.sz:=Nat.mul_le_mul_right _ J;rw [zqG J,ho,← Nat.sub_mul];exact h2 _ x hi
def zgC (d:Option (List Nat)) (M:Env) (L:Own) (k:Nat):Prop:=∀ ol,d=Ob ol->∀ r∈zcM ol,(∃ b o j p,look M r=Ob (.raw (.ptr b o))/\L[j]?=Ob p/\b∈zeP p/\j≠k)\/∃ (A:Type) (R:Rep A) (x:A),look M r=Ob (.val (zL R) x)
theorem zBa {k:Nat}:zgC Oe M L k:=λ_ h=>(nomatch h)
theorem zBb {ol:List Nat} {k:Nat} (h:zcM ol=[]):zgC (Ob ol) M L k:=λ_ e r hr=>by
 cases e; rw [h] at hr; cases hr
inductive zqH (M:Env) (L:Own) (k:Nat):List Nat->Prop where
 | n:zqH M L k []
 | o {r b o:Nat} {es:List TE} {rs:List Nat} (j:Nat) (hl:look M r=Ob (.raw (.ptr b o))) (hj:L[j]?=Ob (.ptr b 0,.box es)) (hne:j≠k) (t:zqH M L k rs):zqH M L k (r::rs)
 | q {A:Type} {R:Rep A} {x:A} {r:Nat} {rs:List Nat} (hl:look M r=Ob (.val (zL R) x)) (t:zqH M L k rs):zqH M L k (r::rs)
theorem roffs {ol rs:List Nat} {k:Nat} (h:zcM ol=rs) (ha:zqH M L k rs):zgC (Ob ol) M L k:=λ_ e r hr=>by
 cases e;rw [h] at hr;clear h;induction ha with
 | n=>cases hr
 | @o r0 b o es rs j hl hj hne t ih=>
  rcases List.mem_cons.1 hr with rfl | hr
  . exact .inl ⟨b,o,j,_,hl,hj,by simp [zeP,zhm],hne⟩
  . exact ih hr
 | @q A R x r0 rs hl t ih=>
  rcases List.mem_cons.1 hr with rfl | hr
  . exact .inr ⟨A,R,x,hl⟩
  . exact ih hr
theorem ROO {p:Prop} (h:p:=by first | exact zBa | exact zBb rfl):p:=h
theorem zzk {A:Type} {R:Rep A} {x y:Operand} {c:Call} {v:zd} {xs:List A} {k:Nat} (hx:Opd M x (.raw v)) (hk:L[k]?=Ob (v,.row R xs)) (ho:o.op=.call c) (hc:c.callee=.builtin .append) (ha:c.args.toList=[x,y]) (hra:zgC d M L k):zzd C d M L o:=λ_ ol hd r hr z fr h s u hu hw=>by
 rw [show foot fr.op o=⟨((c.args.toList.map fr.op).drop 1).flatMap zS,Oc,((c.args.toList.map fr.op).take 1).flatMap zS,Oc⟩ by unfold foot; rw [ho]; simp only [hc]] at hw;simp only [ha,List.map,List.take_succ_cons,List.take_zero,List.flatMap_cons,List.flatMap_nil,List.append_nil,hx.raw s.fr] at hw;rcases hra ol hd r hr with ⟨b,o',j,p,h1,h2,h3,h4⟩ | ⟨A',R',y',h1⟩
 . have e:=s.fr _ _ h1;simp only [TE.ok] at e;rw [e] at hu;simp only [zS,List.mem_singleton] at hu;subst hu;refine h4 (zdC s.own.nodup h2 hk h3 ?_);cases v<;>simp_all [zeP,zhm,zS]
 . have e:=s.fr _ _ h1;simp only [TE.ok] at e;obtain ⟨b',off,cells,ro,q1,q2,_⟩:=zik e;rw [q1] at hu;simp only [zS,List.mem_singleton] at hu;subst hu;have hbe:u∈zeP (v,Obj.row R xs):=by cases v<;>simp_all [zeP,zhm,zS]
   rw [(s.own.out _ (List.mem_of_getElem? hk) _ hbe).1] at q2;cases q2
theorem zoJ {A:Type} {R:Rep A} {bytes:Nat} {x y:Operand} {c:Call} {st et:TypeId} {v:zd} {xs ys zs:List A} (k:Nat) (hsl:Sl T st et R) (hty:Ty T et R bytes) (hap:zcY bytes xs ys=Ob zs) (hw:Want ops M Od o.guard) (ho:o.op=.call c) (hd:o.dst=Ob t) (hc:c.callee=.builtin .append) (ha:c.args.toList=[x,y]) (hat:c.argTypes.toList=[st,st])
    (hx:Opd M x (.raw v)) (hk:L[k]?=Ob (v,.row R xs)) (hy:Opd M y (.val (zb R) ys)) {L':Own} (hL:zcR L k=Ob L') (r:∀ v',zm C T d ops rest ((t,.raw v')::M) ((v',.row R zs)::L') Q) (hra:zgC d M L k:=by exact ROO):zm C T d ops (o::rest) M L Q:=by
  unfold zcY at hap;split at hap
  case isFalse=>cases hap
  cases hap;rename_i hcond;obtain ⟨hcb,hcl⟩:=hcond;refine zpx (e:=λv'=>.raw v') (L':=λv'=>(v',.row R (xs++ys))::L') (.w (by rw [ho]; simp only [zdl,hc]) (λt a q=>by rw [ho] at q; cases q) (by rw [ho]; simp only [zoG,hc]) (zzk hx hk ho hc ha hra)) (λz fr h s=>by
    rw [show foot fr.op o=⟨((c.args.toList.map fr.op).drop 1).flatMap zS,Oc,((c.args.toList.map fr.op).take 1).flatMap zS,Oc⟩ by unfold foot; rw [ho]; simp only [hc]];simp only [ha,List.map,List.drop_succ_cons,List.drop_zero,List.take_succ_cons,List.take_zero,List.flatMap_cons,List.flatMap_nil,List.append_nil,hx.raw s.fr];exact ⟨zAF s.sub (zfX (hy.val s.fr)),zfj s hk rfl⟩) hw hd (λz fr h s=>?_) r
  have hr:=s.own.ok _ (List.mem_of_getElem? hk);simp only [Obj.ok] at hr;obtain ⟨hl0,news,hrow,hnl,hone,hnews⟩:=zut (zfX (hy.val s.fr)) s.sub;obtain ⟨i,h1,h2,h3⟩:=hty.info;obtain ⟨zv,h4,h5⟩:=hty.zero;have hpos:=hty.pos;have hml:(xs++ys).length<=maxLen:=by rw [List.length_append]; simp only [maxLen]; omega
  have sd:=s.drop hL;have frame:∀ w h',aappend T c.argTypes v (fr.op y) h=Ob (w,h')->aop T fr.op h o.op=Ob (.val w h'):=by
    intro w h' e;rw [ho];simp only [aop,zc1,hc,abuiltin,ha,List.map,hx.raw s.fr,e,zf0,Option.map]
  -- a new block
  have fresh:∀ (h1:za) (s1:StZ C M L' z fr h1) (old:List zd),h1.next=h.next->old.length=xs.length*R.sz->(∀ (i:Nat) (x:A),xs[i]?=Ob x->R.rel z ((old.drop (i*R.sz)).take R.sz) x) ->
      StZ C M ((.slice h.next 0 (xs.length+ys.length) R.sz Oe,.row R (xs++ys))::L') z fr (h1.push (.arr (old++news) Oc)):=by
    intro h1 s1 old e hol hold;rw [← e];refine s1.pushOwn _ rfl ?_;simp only [Obj.ok];refine ⟨hml,.inr ⟨h1.next,0,Oe,old++news,by rw [List.length_append],by rw [za.get_push,if_pos rfl],by rw [List.length_append,List.length_append,hol,hnl,Nat.add_mul]; omega,λc q=>(nomatch q),λi x hi=>?_⟩⟩;rw [Nat.zero_add];exact zuu hol hnl hold hnews i x hi
  rcases hr.2 with ⟨rfl,rfl⟩ | ⟨b,off,cap,cells,rfl,g1,g2,g3,g4⟩
  · by_cases hn0:ys.length=0
    · have:ys=[]:=List.length_eq_zero_iff.1 hn0;subst this;refine ⟨.nsz,h,.nsz,frame _ _ ?_,sd.nilrow R,by simp only [TE.ok]⟩;simp only [aappend,hat,hsl.und,h1,h4,h5,h3,hl0,hrow];simp [Nat.ne_of_gt hpos]
    · refine ⟨.slice h.next 0 (([]:List A).length+ys.length) R.sz Oe,_,.slice h.next 0 (([]:List A).length+ys.length) R.sz Oe,frame _ _ ?_,fresh h sd [] rfl Ol Ol,by simp only [TE.ok]⟩;simp only [aappend,hat,hsl.und,h1,h4,h5,h3,hl0,hrow,h2];have hne:¬ (R.sz=0\/R.sz≠R.sz):=J
      simp only [List.length_nil,Nat.zero_add] at hcb hcl;rw [if_neg (λq=>q rfl),if_neg hne,if_neg hn0,if_pos ⟨hcb,hcl⟩];simp
  · have hne:¬ (R.sz=0\/R.sz≠R.sz):=J
    have hold:∀ (i:Nat) (x:A),xs[i]?=Ob x->R.rel z ((((cells.drop off).take (xs.length*R.sz)).drop (i*R.sz)).take R.sz) x:=by
      intro i x hi;have h6:=zer (off:=0) (i:=i) (R:=R) (cells:=(cells.drop off).take (xs.length*R.sz)) Oj hi;rw [List.drop_take,List.take_take,List.drop_drop,Nat.min_eq_left]
      · exact g4 i x hi
      · simp at h6; omega
    have hol:((cells.drop off).take (xs.length*R.sz)).length=xs.length*R.sz:=by simp; omega
    have base:∀ w h',(match cap with
                 | some c=>
                   if xs.length+ys.length<=c then
                     (if (Oc=Oc)/\off+(xs.length+ys.length)*R.sz<=cells.length/\news.all zd.one=Od
                      then Ob (zd.slice b off (xs.length+ys.length) R.sz cap,h.set b (.arr (splice cells (off+xs.length*R.sz) news) Oc)) else Oe)
                   else if off+xs.length*R.sz<=cells.length then
                     Ob (zd.slice h.next 0 (xs.length+ys.length) R.sz Oe,h.push (.arr ((cells.drop off).take (xs.length*R.sz)++news) Oc)) else Oe
                 | none=>if (Oc=Oc)/\off+xs.length*R.sz<=cells.length/\news.all zd.one=Od then
                     Ob (zd.slice h.next 0 (xs.length+ys.length) R.sz Oe,(h.set b .dead).push (.arr ((cells.drop off).take (xs.length*R.sz)++news) Oc)) else Oe)=Ob (w,h') ->
        aappend T c.argTypes (.slice b off xs.length R.sz cap) (fr.op y) h=Ob (w,h'):=by
      intro w h' e;simp only [aappend,hat,hsl.und,h1,h4,h5,h3,hl0,hrow,h2,g1];rw [if_neg (λq=>q rfl),if_neg hne,if_pos ⟨trivial,hcb,hcl⟩];cases cap<;>simpa using e
    cases cap with
    | none=>
      refine ⟨.slice h.next 0 (xs.length+ys.length) R.sz Oe,_,.slice h.next 0 (xs.length+ys.length) R.sz Oe,frame _ _ (base _ _ (if_pos ⟨rfl,g2,hone⟩)),fresh (h.set b .dead) ?_ _ rfl hol hold,by simp only [TE.ok]⟩;obtain ⟨o1,o2,o3⟩:=s.own.out _ (List.mem_of_getElem? hk) b (by simp [zeP,zhm]);refine sd.wild o1 o2 o3 ?_ .dead;have hp:=(List.Perm.flatMap_right zeP (zce hk hL)).nodup_iff.2 s.own.nodup;have hp:(blks ((zd.slice b off xs.length R.sz Oe,Obj.row R xs)::L')).Nodup:=hp;rw [zR] at hp;exact λq=>(List.nodup_append.1 hp).2.2 b (by simp [zeP,zhm]) b q rfl
    | some cc=>
      by_cases hroom:xs.length+ys.length<=cc
      · have hfit:off+(xs.length+ys.length)*R.sz<=cells.length:=by
          have:=(g3 cc rfl).2;have:=Nat.mul_le_mul_right R.sz hroom;omega
        have hin:off+xs.length*R.sz+news.length<=cells.length:=by rw [hnl,Nat.add_assoc,← Nat.add_mul]; exact hfit
        refine ⟨.slice b off (xs.length+ys.length) R.sz (Ob cc),_,.slice b off (xs.length+ys.length) R.sz (Ob cc),frame _ _ (base _ _ ((if_pos hroom).trans (if_pos ⟨rfl,hfit,hone⟩))),(s.front hk hL).upd (k:=0) rfl rfl rfl _ ?_ rfl,by simp only [TE.ok]⟩;simp only [Obj.ok];refine ⟨hml,.inr ⟨b,off,Ob cc,splice cells (off+xs.length*R.sz) news,by rw [List.length_append],by rw [za.get_set,if_pos rfl],by rw [zdE hin,List.length_append]; exact hfit,λc q=>by cases q; rw [zdE hin,List.length_append]; exact ⟨hroom,(g3 _ rfl).2⟩,λi x hi=>?_⟩⟩;rw [List.getElem?_append] at hi;split at hi
        · rename_i q;rw [zg4 hin]
          · exact g4 i x hi
          · left; have:=Nat.mul_le_mul_right R.sz (show i+1<=xs.length from q); rw [Nat.add_mul] at this; omega
        · rename_i q;have hy':=(List.getElem?_eq_some_iff.1 hi).1;have e:i*R.sz=xs.length*R.sz+(i-xs.length)*R.sz:=by rw [← Nat.add_mul]; congr 1; omega
          have h7:=hnews _ _ hi;have h8:=zer (off:=0) (i:=i-xs.length) (R:=R) (cells:=news) J hi;have:((splice cells (off+xs.length*R.sz) news).drop (off+i*R.sz)).take R.sz=(news.drop ((i-xs.length)*R.sz)).take R.sz:=by
            apply List.ext_getElem?;intro j;unfold splice;simp only [List.getElem?_take,List.getElem?_drop,List.getElem?_append,List.length_append,List.length_take];repeat' split
            all_goals (try omega)
            all_goals (first | rfl | (congr 1; omega))
          rw [this]; exact h7
      · refine ⟨.slice h.next 0 (xs.length+ys.length) R.sz Oe,_,.slice h.next 0 (xs.length+ys.length) R.sz Oe,frame _ _ (base _ _ ((if_neg hroom).trans (if_pos g2))),fresh h sd _ rfl hol hold,by simp only [TE.ok]⟩
end
structure Stt (T:Tab) (t:TypeId) (zc:List zd) (places:List (Nat×Nat)):Prop where
 zero:zeS T t=Ob (.agg zc)
 pl:∃ fs,T.und t=Ob (.struct fs)/\aplaces T fs.toList=Ob places
theorem zint {z:Store}:(zh .i64).rel z [.int .i64 0] 0:=⟨rfl,by decide,by decide⟩
theorem zbool {z:Store}:zw.rel z [.bool Oc] Oc:=rfl
theorem znil {A:Type} {R:Rep A} {z:Store}:(zb R).rel z [.nsz] []:=⟨_,rfl,ziW⟩
theorem zunit {z:Store}:zcE.rel z [] ():=rfl
theorem zpair {A B:Type} {R:Rep A} {S:Rep B} {z:Store} {c1 c2 cs:List zd} {a:A} {b:B} (h1:R.rel z c1 a) (h2:S.rel z c2 b) (e:c1++c2=cs):(zC R S).rel z cs (a,b):=⟨c1,c2,e.symm,h1,h2⟩
section
variable {C:Ctx} {T:Tab} {d:Option (List Nat)} {ops rest:List Oper} {M:Env} {L:Own} {Q:zi->za->Prop} {P:zaQ->zi->za->Prop} {o:Oper} {t:Nat} {z:Store} {fr:zi} {h:za}
inductive Bld (M:Env) (zc:List zd) (places:List (Nat×Nat)):{A:Type}->Rep A->Nat->Nat->List (Nat×Operand)->A->Prop where
 | n {i off:Nat} (e:zc.length=off):Bld M zc places zcE i off [] ()
 | p {A B:Type} {R:Rep A} {S:Rep B} {i off:Nat} {x:Operand} {ps:List (Nat×Operand)} {a:A} {b:B} (hx:Opd M x (.val R a)) (hp:places[i]?=Ob (off,R.sz)) (r:Bld M zc places S (i+1) (off+R.sz) ps b):Bld M zc places (zC R S) i off ((i,x)::ps) (a,b)
 | z {A B:Type} {R:Rep A} {S:Rep B} {i off:Nat} {ps:List (Nat×Operand)} {a:A} {b:B} (hz:∀ z,R.rel z ((zc.drop off).take R.sz) a) (r:Bld M zc places S (i+1) (off+R.sz) ps b):Bld M zc places (zC R S) i off ps (a,b)
theorem zuv {zc:List zd} {places:List (Nat×Nat)} {A:Type} {R:Rep A} {i off:Nat} {ps:List (Nat×Operand)} {a:A} (b:Bld M zc places R i off ps a) (hf:ziJ z M fr):off+R.sz=zc.length/\∀ (cells:List zd),cells.length=zc.length->cells.drop off=zc.drop off ->
    ∃ cells',afill (λi=>places[i]?) cells (zds fr.op ps)=Ob cells'/\cells'.length=zc.length/\cells'.take off=cells.take off/\R.rel z (cells'.drop off) a:=by
  induction b with
  | n e=>exact ⟨e.symm,λcells hl _=>⟨cells,rfl,hl,rfl,List.drop_eq_nil_of_le J⟩⟩
  | @p A B R S i off x ps a b hx hp _ ih=>
    obtain ⟨ih0,ih⟩:=ih;simp only [zC] at *
    refine ⟨by omega,λcells hl hd=>?_⟩;have hv:=hx.val hf;have hlen:=R.len _ _ _ hv.rel;have hin:off+(fr.op x).cells.length<=cells.length:=J
    have hdef:(fr.op x).defd=Od:=by
      cases hq:fr.op x with
      | undef=>
        have h1:=hv.agg;have h2:=R.ones _ _ _ hv.rel;rw [hq] at h2; simp [zd.cells,zd.one] at h2
      | _=>rfl
    have hsl:=zdE hin;obtain ⟨c',h1,h2,h3,h4⟩:=ih (splice cells off (fr.op x).cells) J (by
      have e:(splice cells off (fr.op x).cells).drop (off+R.sz)=cells.drop (off+R.sz):=by
        apply List.ext_getElem?;intro j;unfold splice;simp only [List.getElem?_drop,List.getElem?_append,List.length_append,List.length_take];repeat' split
        all_goals (try omega)
        all_goals (first | rfl | (congr 1; omega))
      rw [e];have:=congrArg (List.drop R.sz) hd;rwa [List.drop_drop,List.drop_drop] at this)
    refine ⟨c', ?_,h2, ?_,(fr.op x).cells,c'.drop (off+R.sz), ?_,hv.rel,h4⟩
    · simp only [zds,List.map,afill,hp];rw [if_pos ⟨hdef,hlen,hin⟩];exact h1
    · have:=congrArg (List.take off) h3;rw [List.take_take,List.take_take,Nat.min_eq_left J] at this;rw [this];unfold splice;rw [List.append_assoc,List.take_append_of_le_length Oj,List.take_take,Nat.min_self]
    · have e:c'.drop off=(c'.drop off).take R.sz++c'.drop (off+R.sz):=by
        rw [← List.drop_drop]; exact (List.take_append_drop _ _).symm
      rw [e];congr 1;have:=congrArg (List.drop off) h3;rw [List.drop_take,List.drop_take,Nat.add_sub_cancel_left] at this;rw [this,zkp (n:=R.sz) (k:=0) J (Nat.add_zero _).symm J];have:((cells.drop off).take R.sz).drop (0+(fr.op x).cells.length)=[]:=List.drop_eq_nil_of_le (by rw [List.length_take]; omega);rw [this]; simp
  | @z A B R S i off ps a b hz _ ih=>
    obtain ⟨ih0,ih⟩:=ih;simp only [zC] at *
    refine ⟨by omega,λcells hl hd=>?_⟩;obtain ⟨c',h1,h2,h3,h4⟩:=ih cells hl (by
      have:=congrArg (List.drop R.sz) hd;rwa [List.drop_drop,List.drop_drop] at this)
    refine ⟨c',h1,h2, ?_,(zc.drop off).take R.sz,c'.drop (off+R.sz), ?_,hz _,h4⟩
    · have:=congrArg (List.take off) h3;rwa [List.take_take,List.take_take,Nat.min_eq_left J] at this
    · have e:c'.drop off=(c'.drop off).take R.sz++c'.drop (off+R.sz):=by
        rw [← List.drop_drop]; exact (List.take_append_drop _ _).symm
      rw [e];congr 1;have:=congrArg (List.drop off) h3;rw [List.drop_take,List.drop_take,Nat.add_sub_cancel_left,hd] at this;exact this
theorem zkr {A:Type} {R:Rep A} {zc:List zd} {places:List (Nat×Nat)} {tt:TypeId} {parts:Array (Nat×Operand)} {a:A} (hst:Stt T tt zc places) (hw:Want ops M Od o.guard) (ho:o.op=.build tt parts) (hd:o.dst=Ob t) (hagg:R.agg=Od) (hb:Bld M zc places R 0 0 parts.toList a)
 (r:zm C T d ops rest ((t,.val R a)::M) L Q):zm C T d ops (o::rest) M L Q:=by
 refine zau (by rw [ho]; rfl) hw hd (λz fr h s=>?_) r;obtain ⟨fs,h1,h2⟩:=hst.pl;obtain ⟨h0,hb⟩:=zuv hb s.fr;obtain ⟨c',h3,h4,_,h5⟩:=hb zc rfl rfl;refine ⟨.agg c', ?_,by simp only [TE.ok]; exact ⟨by rw [List.drop_zero] at h5; exact h5,by rw [hagg]; rfl⟩⟩;rw [ho];simp only [aop,abuild,hst.zero,h1,h2,zd.cells,h3,z6,Option.map]
theorem zbX:∀ {es:List TE} {vs:List zd},zB z es vs->vs.length=es.length
 | [],_,h=>by simp only [zB] at h; rw [h]; rfl
 | e::es,_,h=>by
  simp only [zB] at h;obtain ⟨v,vs',rfl,_,h2⟩:=h;simp [zbX h2]
theorem zjK:∀ {es:List TE} {vs:List zd} {i:Nat} {e:TE},zB z es vs->es[i]?=Ob e->∃ v,vs[i]?=Ob v/\e.ok z v
 | [],_,_,_,_,hi=>by simp at hi
 | a::es,_,i,e,h,hi=>by
  simp only [zB] at h;obtain ⟨v,vs',rfl,h1,h2⟩:=h;cases i with
  | zero=>simp at hi; subst hi; exact ⟨v,rfl,h1⟩
  | succ i=>simpa using zjK h2 (by simpa using hi)
theorem zg6:∀ {es:List TE} {vs:List zd} {i:Nat} {e:TE} {v:zd},zB z es vs->e.ok z v->zB z (es.set i e) (vs.set i v)
 | [],_,_,_,_,h,_=>by simp only [zB] at h; subst h; simp [zB]
 | a::es,_,i,e,v,h,hv=>by
  simp only [zB] at h;obtain ⟨u,vs',rfl,h1,h2⟩:=h;cases i with
  | zero=>simp only [List.set_cons_zero,zB]; exact ⟨v,vs',rfl,hv,h2⟩
  | succ i=>simp only [List.set_cons_succ,zB]; exact ⟨u,_,rfl,h1,zg6 h2 hv⟩
def Cells {A:Type} (R:Rep A) (a:A) (es:List TE):Prop:=∀ z cs,R.rel z cs a↔zB z es cs
theorem zz {A:Type} {R:Rep A} {a:A} (h:R.agg=Oc):Cells R a [.val R a]:=by
 intro z cs;simp only [zB,TE.ok];have h1:=R.one h;constructor
 . intro hr;have hl:=R.len _ _ _ hr;have ho:=R.ones _ _ _ hr
   match cs,hl with
   | [c],_=>
    simp at ho;refine ⟨c,[],rfl,⟨?_, ?_⟩,rfl⟩
    . have:c.cells=[c]:=by cases c<;>simp_all [zd.cells,zd.one]
      rw [this]; exact hr
    . rw [h]; cases c<;>simp_all [zd.isAgg,zd.one]
   | [],hl=>rw [h1] at hl; simp at hl
   | _::_::_,hl=>rw [h1] at hl; simp at hl
 . rintro ⟨v,vs,rfl,hv,rfl⟩
   have:v.cells=[v]:=by
    have:=hv.agg;rw [h] at this;cases v<;>simp_all [zd.cells,zd.isAgg]
   rw [← this]; exact hv.rel
theorem zb7:Cells zcE () []:=by intro z cs; simp [zcE,zB]
theorem zes:∀ {es fs:List TE} {cs:List zd},zB z (es++fs) cs↔∃ c1 c2,cs=c1++c2/\zB z es c1/\zB z fs c2
 | [],fs,cs=>by
  simp only [List.nil_append,zB];constructor
  . intro h; exact ⟨[],cs,rfl,rfl,h⟩
  . rintro ⟨c1,c2,rfl,rfl,h⟩; exact h
 | e::es,fs,cs=>by
  simp only [List.cons_append,zB];constructor
  . rintro ⟨v,vs,rfl,h1,h2⟩
    obtain ⟨c1,c2,rfl,h3,h4⟩:=zes.1 h2;exact ⟨v::c1,c2,rfl,⟨v,c1,rfl,h1,h3⟩,h4⟩
  . rintro ⟨c1,c2,rfl,⟨v,vs,rfl,h1,h2⟩,h3⟩
    exact ⟨v,vs++c2,rfl,h1,zes.2 ⟨vs,c2,rfl,h2,h3⟩⟩
theorem zt {A B:Type} {R:Rep A} {S:Rep B} {a:A} {b:B} {es fs gs:List TE} (h1:Cells R a es) (h2:Cells S b fs) (e:es++fs=gs):Cells (zC R S) (a,b) gs:=by
 subst e;intro z cs;rw [zes];constructor
 . rintro ⟨c1,c2,rfl,h3,h4⟩; exact ⟨c1,c2,rfl,(h1 _ _).1 h3,(h2 _ _).1 h4⟩
 . rintro ⟨c1,c2,rfl,h3,h4⟩; exact ⟨c1,c2,rfl,(h1 _ _).2 h3,(h2 _ _).2 h4⟩
theorem zr2 {et:TypeId} {zv:zd} {es:List TE} (hz:zeS T et=Ob zv) (hes:∀ z,zB z es zv.cells) (h1:zv.cells.all zd.one=Od) (hw:Want ops M Od o.guard) (ho:o.op=.alloc et) (hd:o.dst=Ob t)
 (r:∀ b,zm C T d ops rest ((t,.raw (.ptr b 0))::M) ((.ptr b 0,.box es)::L) Q):zm C T d ops (o::rest) M L Q:=by
 refine zfh hw (nf (by rw [ho]; rfl)) λz fr h s=>?_;have ha:aop T fr.op h o.op=Ob (.val (.ptr h.next 0) (h.push (.arr zv.cells Oc))):=by rw [ho]; simp only [aop,zf1,hz]
 refine ⟨_,_,z,_,_,ha,nfo (by rw [ho]; rfl),.refl _, ?_,r h.next⟩;rw [hd,zaU];refine (s.pushOwn (v:=.ptr h.next 0) (ob:=.box es) _ rfl ?_).set (by simp only [TE.ok]);exact ⟨h.next,zv.cells,rfl,by rw [za.get_push,if_pos rfl],hes z,h1⟩
theorem zzl {A:Type} {R:Rep A} {et:TypeId} {x:Operand} {a:A} {es:List TE} (hc:Cells R a es) (hw:Want ops M Od o.guard) (ho:o.op=.box et x) (hd:o.dst=Ob t) (hx:Opd M x (.val R a))
 (r:∀ b,zm C T d ops rest ((t,.raw (.ptr b 0))::M) ((.ptr b 0,.box es)::L) Q):zm C T d ops (o::rest) M L Q:=by
 refine zfh hw (nf (by rw [ho]; rfl)) λz fr h s=>?_;have hv:=hx.val s.fr;have h1:=R.ones _ _ _ hv.rel;have ha:aop T fr.op h o.op=Ob (.val (.ptr h.next 0) (h.push (.arr (fr.op x).cells Oc))):=by
  rw [ho];simp only [aop,zj1];split
  . rename_i q; rw [q] at h1; simp [zd.cells,zd.one] at h1
  . rfl
 refine ⟨_,_,z,_,_,ha,nfo (by rw [ho]; rfl),.refl _, ?_,r h.next⟩;rw [hd,zaU];refine (s.pushOwn (v:=.ptr h.next 0) (ob:=.box es) _ rfl ?_).set (by simp only [TE.ok]);exact ⟨h.next,_,rfl,by rw [za.get_push,if_pos rfl],(hc _ _).1 hv.rel,h1⟩
theorem zBc {A:Type} {R:Rep A} {et:TypeId} {x:Operand} {a:A} (hw:Want ops M Od o.guard) (ho:o.op=.box et x) (hd:o.dst=Ob t) (hx:Opd M x (.val R a))
 (r:zm C T d ops rest ((t,.val (zL R) a)::M) L Q):zm C T d ops (o::rest) M L Q:=by
 refine zzi (nf (by rw [ho]; rfl)) (λ_ _ _ _=>nfo (by rw [ho]; rfl)) hw hd (λz fr h s=>?_) r;have hv:=hx.val s.fr;have h1:=R.ones _ _ _ hv.rel;refine ⟨.ptr h.next 0,h.push (.arr (fr.op x).cells Oc),z.add h.next (.arr (fr.op x).cells Oc), ?_,ziq s.next_none,s.push _, ?_⟩
 . rw [ho];simp only [aop,zj1];split
   . rename_i q; rw [q] at h1; simp [zd.cells,zd.one] at h1
   . rfl
 . simp only [TE.ok];have hl:=R.len _ _ _ hv.rel;refine zgc ⟨h.next,0,_,Oc,rfl,zg3,by omega, ?_⟩;rw [List.drop_zero,← hl,List.take_length];exact R.mono _ _ _ _ (ziq s.next_none) hv.rel
theorem zb8 {A:Type} {R:Rep A} {a:A} {es:List TE} {b:Nat} (k:Nat) (ts:List Nat) (hc:Cells R a es) {L':Own} (hk:L[k]?=Ob (.ptr b 0,.box es)) (hL:zcR L k=Ob L') (hts:zir M (.ptr b 0) ts):∀ z fr h,StZ C M L z fr h->∃ z',z.le z'/\StZ C (zf2 ts (.val (zL R) a) M) L' z' fr h:=by
 intro z fr h s;have ho:=s.own.ok _ (List.mem_of_getElem? hk);simp only [Obj.ok] at ho;obtain ⟨b',cells,q,h2,h3,h4⟩:=ho;cases q;obtain ⟨o1,o2,o3⟩:=s.own.out _ (List.mem_of_getElem? hk) b (by simp [zeP,zhm]);have hle:z.le (z.add b (.arr cells Oc)):=ziq o1;have s':=s.drop hL;have hne:∀ p∈L',∀ c,c∈zeP p->c≠b:=by
  intro p hp c hc e;subst e;have hp':=(List.Perm.flatMap_right zeP (zce hk hL)).nodup_iff.2 s.own.nodup;have hp':(blks ((zd.ptr c 0,Obj.box es)::L')).Nodup:=hp';rw [zR] at hp';exact (List.nodup_append.1 hp').2.2 c (by simp [zeP,zhm]) c (zbm.2 ⟨p,hp,hc⟩) rfl
 have hr:=(hc z cells).2 h3;refine ⟨z.add b (.arr cells Oc),hle,{ zle:=s.zle.trans hle,sub:=?_,old:=?_,fr:=zeI ?_ hts (s.fr.mono hle),own:=⟨λp hp=>Obj.ok_mono hle (λ_ _=>rfl) (s'.own.ok p hp),λp hp c hc=>?_,s'.own.nodup⟩,chg:=s.chg }⟩
 . intro c y hc;by_cases e:c=b
   . subst e; rw [zg3] at hc; cases hc; exact ⟨h2,o2⟩
   . rw [add_ne e] at hc; exact s.sub c y hc
 . intro c hc hB;rw [add_ne]
   . exact s.old c hc hB
   . intro e; subst e;rcases o3 with q | q
     . omega
     . exact hB q
 . simp only [TE.ok];have hl:=R.len _ _ _ hr;refine zgc ⟨b,0,cells,Oc,rfl,zg3,by omega, ?_⟩;rw [List.drop_zero,← hl,List.take_length];exact R.mono _ _ _ _ hle hr
 . obtain ⟨q1,q2,q3⟩:=s'.own.out p hp c hc;exact ⟨by rw [add_ne (hne p hp c hc)]; exact q1,q2,q3⟩
theorem zwU {et:TypeId} {x:Operand} {b q:Nat} {es:List TE} {e:TE} (k:Nat) (hls:Listed d ops rest) (hag:zeb T et=Ob Oc) (he:es[q]?=Ob e) (hw:Want ops M Od o.guard) (ho:o.op=.load et x) (hd:o.dst=Ob t) (hx:Opd M x (.raw (.ptr b q))) (hk:L[k]?=Ob (.ptr b 0,.box es))
 (r:zm C T d ops rest ((t,e)::M) L Q):zm C T d ops (o::rest) M L Q:=by
 refine zfD (.l hls (by rw [ho]; rfl) (by rw [ho]; rfl)) (λz fr h s=>by
  rw [show foot fr.op o=⟨zS (fr.op x),Oc,[],Oc⟩ by unfold foot; rw [ho]];exact ⟨λb' hb=>zim s hk rfl b' (by simpa [zS,hx.raw s.fr] using hb),λb hb=>(nomatch hb)⟩) hw hd (λz fr h s=>?_) r
 have hob:=s.own.ok _ (List.mem_of_getElem? hk);simp only [Obj.ok] at hob;obtain ⟨b',cells,q',h2,h3,h4⟩:=hob;cases q';obtain ⟨v,h5,h6⟩:=zjK h3 he;refine ⟨v, ?_,h6⟩;rw [ho];simp only [aop,hx.raw s.fr,aload,h2,Go.Ai.apart,hag,h5,z6,Option.map]
theorem zuw {A:Type} {R:Rep A} {a:A} {et:TypeId} {x:Operand} {b:Nat} {es:List TE} (k:Nat) (hls:Listed d ops rest) (hu:Und T et R) (hc:Cells R a es) (hw:Want ops M Od o.guard) (ho:o.op=.load et x) (hd:o.dst=Ob t) (hx:Opd M x (.raw (.ptr b 0))) (hk:L[k]?=Ob (.ptr b 0,.box es))
 (r:zm C T d ops rest ((t,.val R a)::M) L Q):zm C T d ops (o::rest) M L Q:=by
 refine zfD (.l hls (by rw [ho]; rfl) (by rw [ho]; rfl)) (λz fr h s=>by
  rw [show foot fr.op o=⟨zS (fr.op x),Oc,[],Oc⟩ by unfold foot; rw [ho]];exact ⟨λb' hb=>zim s hk rfl b' (by simpa [zS,hx.raw s.fr] using hb),λb hb=>(nomatch hb)⟩) hw hd (λz fr h s=>?_) r
 have hob:=s.own.ok _ (List.mem_of_getElem? hk);simp only [Obj.ok] at hob;obtain ⟨b',cells,q',h2,h3,h4⟩:=hob;cases q';have hr:=(hc z cells).2 h3;have hl:=R.len _ _ _ hr;obtain ⟨v,h5,h6⟩:=zfi (off:=0) (cells:=cells) hu.sz hu.agg J (by rw [List.drop_zero,← hl,List.take_length]; exact hr);refine ⟨v, ?_,by simp only [TE.ok]; exact h6⟩;rw [ho];simp only [aop,hx.raw s.fr,aload,h2,h5,z6,Option.map]
theorem zlN {cells:List zd} {q:Nat} {v:zd} (h:q<cells.length):splice cells q [v]=cells.set q v:=by
 apply List.ext_getElem?;intro i;unfold splice;rw [List.append_assoc,List.getElem?_append,List.getElem?_set,List.length_take,Nat.min_eq_left J];by_cases h1:i<q
 . rw [if_pos h1,if_neg J,List.getElem?_take,if_pos h1]
 . rw [if_neg h1];by_cases h2:q=i
   . subst h2; rw [if_pos rfl,if_pos h]; simp
   . rw [if_neg h2,List.getElem?_append_right Oj,List.getElem?_drop];congr 1; simp; omega
theorem zjL {A:Type} {R:Rep A} {a:A} {et:TypeId} {x y:Operand} {b q:Nat} {es:List TE} (k:Nat) (hsz:szT T et=Ob 1) (hk:L[k]?=Ob (.ptr b 0,.box es)) (hq:q<es.length) (hw:Want ops M Od o.guard) (ho:o.op=.store et x y) (hd:o.dst=Oe) (hx:Opd M x (.raw (.ptr b q))) (hy:Opd M y (.val R a)) (hR:R.agg=Oc)
 {L':Own} (hL:zfE L k (.ptr b 0,.box (es.set q (.val R a)))=Ob L') (r:zm C T d ops rest M L' Q):zm C T d ops (o::rest) M L Q:=by
 refine zjp (.w (by rw [ho]; rfl) (λt a q=>by rw [ho] at q; cases q) (by rw [ho]; rfl) (λq=>by rw [ho] at q; cases q)) (λz fr h s=>by
  rw [show foot fr.op o=⟨[],Oc,zS (fr.op x),Oc⟩ by unfold foot; rw [ho]];exact ⟨λb hb=>(nomatch hb),λb' hb=>zfj s hk rfl b' (by simpa [zS,hx.raw s.fr] using hb)⟩) hw hd (λz fr h s=>?_) r
 have hob:=s.own.ok _ (List.mem_of_getElem? hk);simp only [Obj.ok] at hob;obtain ⟨b',cells,q',h2,h3,h4⟩:=hob;cases q';have hv:=hy.val s.fr;have h1:=R.one hR;have hcs:(fr.op y).cells=[fr.op y]:=by
  have:=hv.agg;rw [hR] at this;cases e:fr.op y<;>rw [e] at this<;>simp_all [zd.cells,zd.isAgg]
 have hon:=R.ones _ _ _ hv.rel;rw [hcs] at hon;have hlt:q<cells.length:=by rw [zbX h3]; exact hq
 refine ⟨.tuple [],h.set b (.arr (cells.set q (fr.op y)) Oc), ?_,s.upd hk rfl rfl _ ?_ hL⟩
 . rw [ho];simp only [aop,hx.raw s.fr,astore,h2,hsz,hcs,List.length_singleton];rw [if_pos (by exact ⟨by trivial,by omega,hon⟩),zlN hlt];rfl
 . refine ⟨b,_,rfl,by rw [za.get_set,if_pos rfl],zg6 h3 (by simp only [TE.ok]; exact hv), ?_⟩;rw [List.all_eq_true] at h4 ⊢;intro c hc;rcases List.mem_or_eq_of_mem_set hc with q | rfl
   . exact h4 c q
   . simpa using hon
theorem znE {A:Type} {R:Rep A} {a:A} {et:TypeId} {x y:Operand} {b:Nat} {es es':List TE} (k:Nat) (hu:Und T et R) (hk:L[k]?=Ob (.ptr b 0,.box es)) (hc:Cells R a es') (hl:es'.length=es.length) (hw:Want ops M Od o.guard) (ho:o.op=.store et x y) (hd:o.dst=Oe) (hx:Opd M x (.raw (.ptr b 0))) (hy:Opd M y (.val R a))
 {L':Own} (hL:zfE L k (.ptr b 0,.box es')=Ob L') (r:zm C T d ops rest M L' Q):zm C T d ops (o::rest) M L Q:=by
 refine zjp (.w (by rw [ho]; rfl) (λt a q=>by rw [ho] at q; cases q) (by rw [ho]; rfl) (λq=>by rw [ho] at q; cases q)) (λz fr h s=>by
  rw [show foot fr.op o=⟨[],Oc,zS (fr.op x),Oc⟩ by unfold foot; rw [ho]];exact ⟨λb hb=>(nomatch hb),λb' hb=>zfj s hk rfl b' (by simpa [zS,hx.raw s.fr] using hb)⟩) hw hd (λz fr h s=>?_) r
 have hob:=s.own.ok _ (List.mem_of_getElem? hk);simp only [Obj.ok] at hob;obtain ⟨b',cells,q',h2,h3,h4⟩:=hob;cases q';have hv:=hy.val s.fr;have hlen:=R.len _ _ _ hv.rel;have hok:=(hc _ _).1 hv.rel;have hle:=zbX hok;have hlc:=zbX h3;have e:splice cells 0 (fr.op y).cells=(fr.op y).cells:=by
  unfold splice;rw [List.take_zero,Nat.zero_add,List.drop_eq_nil_of_le J]; simp
 refine ⟨.tuple [],h.set b (.arr (fr.op y).cells Oc), ?_,s.upd hk rfl rfl _ ?_ hL⟩
 . rw [ho];simp only [aop,hx.raw s.fr,astore,h2,hu.sz];rw [if_pos ⟨hlen,by omega,R.ones _ _ _ hv.rel⟩,e];rfl
 . exact ⟨b,_,rfl,by rw [za.get_set,if_pos rfl],hok,R.ones _ _ _ hv.rel⟩
theorem zhS {z:Store}:∀ {es:List TE} {vs:List zd} {off n:Nat},zB z es vs->zB z ((es.drop off).take n) ((vs.drop off).take n)
 | es,vs,off,n,h=>by
  have hd:∀ {off:Nat} {es:List TE} {vs:List zd},zB z es vs->zB z (es.drop off) (vs.drop off):=by
   intro off;induction off with
   | zero=>intro es vs h; simpa using h
   | succ off ih=>
    intro es vs h;cases es with
    | nil=>simp only [zB] at h; subst h; simp [zB]
    | cons e es=>
     simp only [zB] at h;obtain ⟨v,vs',rfl,_,h2⟩:=h;exact ih h2
  have ht:∀ {n:Nat} {es:List TE} {vs:List zd},zB z es vs->zB z (es.take n) (vs.take n):=by
   intro n;induction n with
   | zero=>intro es vs h; simp [zB]
   | succ n ih=>
    intro es vs h;cases es with
    | nil=>simp only [zB] at h; subst h; simp [zB]
    | cons e es=>
     simp only [zB] at h;obtain ⟨v,vs',rfl,h1,h2⟩:=h;simp only [List.take_succ_cons,zB];exact ⟨v,_,rfl,h1,ih h2⟩
  exact ht (hd h)
theorem zpz {A:Type} {R:Rep A} {a:A} {et:TypeId} {x:Operand} {b off:Nat} {es:List TE} (k:Nat) (hls:Listed d ops rest) (hu:Und T et R) (hc:Cells R a ((es.drop off).take R.sz)) (hle:off+R.sz<=es.length) (hw:Want ops M Od o.guard) (ho:o.op=.load et x) (hd:o.dst=Ob t) (hx:Opd M x (.raw (.ptr b off))) (hk:L[k]?=Ob (.ptr b 0,.box es))
 (r:zm C T d ops rest ((t,.val R a)::M) L Q):zm C T d ops (o::rest) M L Q:=by
 refine zfD (.l hls (by rw [ho]; rfl) (by rw [ho]; rfl)) (λz fr h s=>by
  rw [show foot fr.op o=⟨zS (fr.op x),Oc,[],Oc⟩ by unfold foot; rw [ho]];exact ⟨λb' hb=>zim s hk rfl b' (by simpa [zS,hx.raw s.fr] using hb),λb hb=>(nomatch hb)⟩) hw hd (λz fr h s=>?_) r
 have hob:=s.own.ok _ (List.mem_of_getElem? hk);simp only [Obj.ok] at hob;obtain ⟨b',cells,q',h2,h3,h4⟩:=hob;cases q';have hlc:=zbX h3;have hr:=(hc z _).2 (zhS (off:=off) (n:=R.sz) h3);obtain ⟨v,h5,h6⟩:=zfi (off:=off) (cells:=cells) hu.sz hu.agg J hr;refine ⟨v, ?_,by simp only [TE.ok]; exact h6⟩;rw [ho];simp only [aop,hx.raw s.fr,aload,h2,h5,z6,Option.map]
theorem znF {z:Store} {es fs:List TE} {vs us:List zd} {off:Nat} (h:zB z es vs) (hf:zB z fs us) (hle:off+fs.length<=es.length):zB z (es.take off++fs++es.drop (off+fs.length)) (splice vs off us):=by
 have h1:=zhS (off:=0) (n:=off) h;have h2:=zhS (off:=off+fs.length) (n:=es.length) h;have l1:=zbX h;have l2:=zbX hf;rw [List.drop_zero,List.drop_zero] at h1;rw [List.take_of_length_le (by rw [List.length_drop]; omega),List.take_of_length_le (by rw [List.length_drop]; omega)] at h2;unfold splice;rw [l2];have a1:=zes.2 ⟨_,_,rfl,h1,hf⟩;exact zes.2 ⟨_,_,rfl,a1,h2⟩
theorem zis {A:Type} {R:Rep A} {a:A} {et:TypeId} {x y:Operand} {b off:Nat} {es es':List TE} (k:Nat) (hu:Und T et R) (hk:L[k]?=Ob (.ptr b 0,.box es)) (hc:Cells R a es') (hle:off+es'.length<=es.length) (hw:Want ops M Od o.guard) (ho:o.op=.store et x y) (hd:o.dst=Oe) (hx:Opd M x (.raw (.ptr b off))) (hy:Opd M y (.val R a))
 {L':Own} (hL:zfE L k (.ptr b 0,.box (es.take off++es'++es.drop (off+es'.length)))=Ob L') (r:zm C T d ops rest M L' Q):zm C T d ops (o::rest) M L Q:=by
 refine zjp (.w (by rw [ho]; rfl) (λt a q=>by rw [ho] at q; cases q) (by rw [ho]; rfl) (λq=>by rw [ho] at q; cases q)) (λz fr h s=>by
  rw [show foot fr.op o=⟨[],Oc,zS (fr.op x),Oc⟩ by unfold foot; rw [ho]];exact ⟨λb hb=>(nomatch hb),λb' hb=>zfj s hk rfl b' (by simpa [zS,hx.raw s.fr] using hb)⟩) hw hd (λz fr h s=>?_) r
 have hob:=s.own.ok _ (List.mem_of_getElem? hk);simp only [Obj.ok] at hob;obtain ⟨b',cells,q',h2,h3,h4⟩:=hob;cases q';have hv:=hy.val s.fr;have hlen:=R.len _ _ _ hv.rel;have hok:=(hc _ _).1 hv.rel;have hle':=zbX hok;have hlc:=zbX h3;have hones:=R.ones _ _ _ hv.rel;refine ⟨.tuple [],h.set b (.arr (splice cells off (fr.op y).cells) Oc), ?_,s.upd hk rfl rfl _ ?_ hL⟩
 . rw [ho];simp only [aop,hx.raw s.fr,astore,h2,hu.sz];rw [if_pos ⟨hlen,by omega,hones⟩];rfl
 . refine ⟨b,_,rfl,by rw [za.get_set,if_pos rfl],znF h3 hok hle, ?_⟩;unfold splice;rw [List.all_append,List.all_append,hones,Bool.and_true,Bool.and_eq_true];rw [List.all_eq_true] at h4;exact ⟨List.all_eq_true.2 λc hc=>h4 c (List.mem_of_mem_take hc),List.all_eq_true.2 λc hc=>h4 c (List.mem_of_mem_drop hc)⟩
end
inductive RE:Type 1 where
 | val {A:Type} (R:Rep A) (y:A)
 | row {A:Type} (R:Rep A) (ys:List A)
def tes:List RE->List zd->List TE
 | .val R y::rs,_::us=>.val R y::tes rs us
 | .row _ _::rs,u::us=>.raw u::tes rs us
 | _,_=>[]
def owns:List RE->List zd->Own
 | .val _ _::rs,_::us=>owns rs us
 | .row R ys::rs,u::us=>(u,.row R ys)::owns rs us
 | _,_=>[]
def Fun (T:Tab) (g:FuncId) (as:List TE) (rs:List RE):Prop:=
 ∀ z h vs,z.Sub h->h.wm<=h.next->zB z as vs->zlc T g vs h λr h'=>∃ us z',r=.ret (packed us)/\us.length=rs.length/\Quiet h h'/\z.le z'/\z'.Sub h'/\(∀ b,b<h.next->z' b=z b)/\zB z' (tes rs us) us/\zgT ⟨z,h,[]⟩ z' h' (owns rs us)
def zoK:List TE->TE
 | [e]=>e
 | es=>.tup es
def RQ:List RE->Own->(List TE->Own->Prop)->Prop
 | [],L,k=>k [] L
 | .val R y::rs,L,k=>RQ rs L λes L'=>k (.val R y::es) L'
 | .row R ys::rs,L,k=>∀ v,RQ rs L λes L'=>k (.raw v::es) ((v,.row R ys)::L')
theorem RQ.at:∀ {rs:List RE} {us:List zd} {L:Own} {k:List TE->Own->Prop},us.length=rs.length->RQ rs L k->k (tes rs us) (owns rs us++L)
 | [],[],L,k,_,h=>h
 | .val R y::rs,u::us,L,k,hl,h=>RQ.at (rs:=rs) (us:=us) (k:=λes L'=>k (.val R y::es) L') (by simpa using hl) h
 | .row R ys::rs,u::us,L,k,hl,h=>RQ.at (rs:=rs) (us:=us) (k:=λes L'=>k (.raw u::es) ((u,.row R ys)::L')) (by simpa using hl) (h u)
 | [],_::_,_,_,hl,_=>by simp at hl
 | _::_,[],_,_,hl,_=>by simp at hl
theorem zks {z:Store} {rs:List RE} {us:List zd} (hl:us.length=rs.length) (h:zB z (tes rs us) us):(zoK (tes rs us)).ok z (packed us):=by
 have hlen:(tes rs us).length=us.length:=(zbX h).symm
 match us,hl with
 | [],_=>
  have:tes rs []=[]:=List.length_eq_zero_iff.1 (by simpa using hlen);rw [this] at h ⊢;simp only [zoK,TE.ok];exact ⟨[],rfl,h⟩
 | [u],_=>
  obtain ⟨e,he⟩:=List.length_eq_one_iff.1 hlen;rw [he] at h ⊢;simp only [zB] at h;obtain ⟨v,vs,q,h1,rfl⟩:=h;cases q;exact h1
 | u::u'::us,_=>
  have:∃ e e' es,tes rs (u::u'::us)=e::e'::es:=by
   match htes:tes rs (u::u'::us),hlen with
   | e::e'::es,_=>exact ⟨e,e',es,rfl⟩
   | [_],hlen=>simp at hlen
   | [],hlen=>simp at hlen
  obtain ⟨e,e',es,he⟩:=this;rw [he] at h ⊢;simp only [zoK,TE.ok];exact ⟨_,rfl,h⟩
section
variable {C:Ctx} {T:Tab} {d:Option (List Nat)} {ops rest:List Oper} {M:Env} {L:Own} {Q:zi->za->Prop} {P:zaQ->zi->za->Prop} {o:Oper} {t:Nat} {z:Store} {fr:zi} {h:za}
inductive Opds (M:Env):List Operand->List TE->Prop where
 | n:Opds M [] []
 | c {x:Operand} {e:TE} {xs:List Operand} {es:List TE} (h:Opd M x e) (r:Opds M xs es):Opds M (x::xs) (e::es)
theorem Opds.ok {xs:List Operand} {es:List TE} (q:Opds M xs es) (hf:ziJ z M fr):zB z es (xs.map fr.op):=by
 induction q with
 | n=>simp [zB]
 | c h _ ih=>simp only [zB,List.map]; exact ⟨_,_,rfl,h.ok hf,ih⟩
theorem StZ.after (s:StZ C M L z fr h) {h':za} {z':Store} {O:Own} (q:Quiet h h') (hz:z.le z') (hs:z'.Sub h') (hold:∀ b,b<h.next->z' b=z b) (ho:zgT ⟨z,h,[]⟩ z' h' O):StZ C M (O++L) z' fr h':=by
 refine { zle:=s.zle.trans hz,sub:=hs,old:=λb hb hB=>?_,fr:=s.fr.mono hz,own:=⟨?_, ?_, ?_⟩,chg:=⟨Nat.le_trans s.chg.next q.next,λb hb hB=>?_,λm m1 m2 m3=>?_,q.ok s.chg.ok⟩ }
 . rw [hold b (Nat.lt_of_lt_of_le hb s.chg.next)]; exact s.old b hb hB
 . intro p hp;rcases List.mem_append.1 hp with hp | hp
   . exact ho.ok p hp
   . exact Obj.ok_mono hz (λb hb=>q.same b (s.own.out p hp b hb).2.1) (s.own.ok p hp)
 . intro p hp b hb;rcases List.mem_append.1 hp with hp | hp
   . obtain ⟨o1,o2,o3⟩:=ho.out p hp b hb;refine ⟨o1,o2,.inl ?_⟩;rcases o3 with q1 | q1
     . exact Nat.le_trans s.chg.next q1
     . cases q1
   . obtain ⟨o1,o2,o3⟩:=s.own.out p hp b hb;exact ⟨by rw [hold b o2]; exact o1,Nat.lt_of_lt_of_le o2 q.next,o3⟩
 . rw [show blks (O++L)=blks O++blks L by simp [blks]];refine List.nodup_append.2 ⟨ho.nodup,s.own.nodup,λa ha b hb e=>?_⟩;subst e;obtain ⟨p,hp,h1⟩:=zbm.1 ha;obtain ⟨p',hp',h2⟩:=zbm.1 hb;have:=(s.own.out p' hp' a h2).2.1;rcases (ho.out p hp a h1).2.2 with q1 | q1
   . have q1:h.next<=a:=q1;omega
   . cases q1
 . rw [q.same b (Nat.lt_of_lt_of_le hb s.chg.next)]; exact s.chg.same b hb hB
 . have h1:=s.chg.wm m m1 m2 m3;have h2:=q.wm;have h3:=s.chg.next;omega
theorem zkt (hw:Want ops M Od o.guard) (hd:o.dst=Ob t) {rs:List RE} (hq:RQ rs L λes L'=>zm C T d ops rest ((t,zoK es)::M) L' Q)
    (H:∀ z fr h,StZ C M L z fr h->∃ f vs,aop T fr.op h o.op=Ob (.call f vs)/\∀ h1,h1.next=h.next->(∀ b,h1.get b=h.get b)->h1.wm<=h1.next->zjy T f vs h1 λr h'=>∃ us z',r=.ret (packed us)/\us.length=rs.length/\Quiet h1 h'/\z.le z'/\z'.Sub h'/\(∀ b,b<h.next->z' b=z b)/\zB z' (tes rs us) us/\zgT ⟨z,h1,[]⟩ z' h' (owns rs us)) :
    zm C T d ops (o::rest) M L Q:=by
  cases d with
  | none=>
    intro fr h ⟨z,s⟩;obtain ⟨f,vs,ha,hcall⟩:=H z fr h s;simp only [wX,hw.ok s.fr,ha,hd,zaU];refine (hcall h rfl (λ_=>rfl) s.chg.ok).mono λr h' ⟨us,z',e1,hl,q,hz,hs,hold,hok,hown⟩=>⟨packed us,e1, ?_⟩;have s':=s.after q hz hs hold hown;exact hq.at hl _ _ ⟨z',s'.set (zks hl hok)⟩
  | some ol=>
    intro z fr h i done s hr hok hdn;obtain ⟨f,vs,ha,hcall⟩:=H z fr h s;have hi:ops[i]?=Ob o:=by have:=congrArg (λl=>l[0]?) hr; simpa using this
    have hlt:i<ops.length:=(List.getElem?_eq_some_iff.1 hi).1;have hr':ops.drop (i+1)=rest:=by have:=congrArg List.tail hr; simpa using this
    obtain ⟨c,fo,hoc,hcc,_⟩:=zc2 ha;have n1:zdl o.op=Oc:=by rw [hoc]; simp only [zdl,hcc]
    have n2:zkm o.op=Oc:=by rw [hoc]; simp only [zkm,hcc]
    have sl:StZ C M L z fr (lay h h.next):=s.low (Nat.le_refl _) (λm _ m2 _=>Nat.le_trans m2 s.chg.next);refine zkk (hw.ok s.fr) ha s.chg.ok (zfW hi hdn (zg2 hok i hlt) rfl ⟨λb hb=>(nomatch hb),λb hb=>(nomatch hb)⟩ (λq=>by rw [n1] at q; cases q) (λq=>by rw [n2] at q; cases q) (λ_=>rfl) (λt et y q=>by rw [hoc] at q; cases q) (λt a q=>by rw [hoc] at q; cases q) (λq=>by rw [hoc] at q; simp [zhR,hcc] at q)) ?_;refine (hcall (lay h h.next) rfl (λ_=>rfl) (Nat.le_refl _)).mono λr h' ⟨us,z',e1,hl,q,hz,hs,hold,hok',hown⟩=>⟨packed us,e1,q, ?_⟩;have s':=sl.after q hz hs hold hown;have s'':StZ C M (owns rs us++L) z' fr (lay h' (min h.wm h'.wm)):=s'.low (by have:=s'.chg.ok; omega) (λm m1 m2 m3=>by have h1:=s.chg.wm m m1 m2 m3; have h2:=s'.chg.wm m m1 m2 m3; omega);have hn:=hdn.next (z':=z') (h':=lay h' (min h.wm h'.wm)) (v:=packed us) hi hz q.next [(i,⟨[],Od,[],Oc⟩)] (λp hp=>by
      rw [List.mem_singleton] at hp;subst hp;refine ⟨rfl,rfl,λ_=>rfl,λq=>(by rw [hoc] at q; cases q),λb hb=>(by simp at hb),λq=>?_⟩;unfold zeG at q;rw [n1,hoc] at q;simp [zoG,znx,hcc] at q) (λhal=>(ziV hal ha).elim) (λr q=>by rw [hoc] at q; cases q) (λp _ t a q=>by rw [hoc] at q; cases q) (λp _ q=>by rw [hoc] at q; simp [zhR,hcc] at q) (λp _ t a y q=>by rw [hoc] at q; cases q)
    rw [hd,zaU] at hn ⊢;exact hq.at hl z' _ _ (i+1) _ (s''.set (zks hl hok')) hr' hok hn
theorem zzm {c:Call} {x:Operand} {g:FuncId} {pre post:List zd} {as:List TE} {rs:List RE} {vs:List TE} (hf:Fun T g as rs) (hcst:T.consts.get g=Oe) (hw:Want ops M Od o.guard) (ho:o.op=.call c) (hd:o.dst=Ob t) (hc:c.callee=.value x) (hx:Opd M x (.raw (.func (.func g) [] []))) (hvs:Opds M c.args.toList as)
 (hq:RQ rs L λes L'=>zm C T d ops rest ((t,zoK es)::M) L' Q):zm C T d ops (o::rest) M L Q:=by
 refine zkt hw hd hq λz fr h s=>⟨.func (.func g) [] [],c.args.toList.map fr.op,by rw [ho]; simp only [aop,zc1,hc,hx.raw s.fr],λh1 hn hg hwm=>?_⟩;have hsub:z.Sub h1:=λb y hb=>by rw [hg,hn]; exact s.sub b y hb
 refine zdf hcst ?_;rw [List.nil_append,List.append_nil];refine (hf z h1 _ hsub hwm (hvs.ok s.fr)).mono λr h' ⟨us,z',e1,hl,q,hz,hs,hold,hok,hown⟩=>⟨us,z',e1,hl,q,hz,hs, ?_,hok,hown⟩;rw [← hn]; exact hold
def Rep.flat {A:Type} (R:Rep A):Prop:=∀ z z' cs x,R.rel z cs x->R.rel z' cs x
theorem zc9 {k:IntKind}:Rep.flat (zh k):=λ_ _ _ _ h=>h
theorem zeX:Rep.flat zw:=λ_ _ _ _ h=>h
theorem zg7:Rep.flat zcE:=λ_ _ _ _ h=>h
theorem zcf {A B:Type} {R:Rep A} {S:Rep B} (h1:Rep.flat R) (h2:Rep.flat S):Rep.flat (zC R S):=λ_ _ _ _ ⟨c1,c2,e,a,b⟩=>⟨c1,c2,e,h1 _ _ _ _ a,h2 _ _ _ _ b⟩
inductive Flats:List RE->Prop where
 | n:Flats []
 | v {A:Type} {R:Rep A} {y:A} {rs:List RE} (h:Rep.flat R) (r:Flats rs):Flats (.val R y::rs)
 | r {A:Type} {R:Rep A} {ys:List A} {rs:List RE} (h:Rep.flat R) (r:Flats rs):Flats (.row R ys::rs)
theorem Flats.ok:∀ {rs:List RE} {us:List zd} {z z':Store},Flats rs->zB z' (tes rs us) us->zB z (tes rs us) us
 | [],us,_,_,_,h=>by simpa [tes,zB] using h
 | .val R y::rs,[],_,_,_,h=>by simp [tes,zB]
 | .row R y::rs,[],_,_,_,h=>by simp [tes,zB]
 | .val R y::rs,u::us,z,z',.v h1 h2,h=>by
  simp only [tes,zB,TE.ok] at h ⊢;obtain ⟨v,vs,e,h3,h4⟩:=h;cases e;exact ⟨u,us,rfl,⟨h1 _ _ _ _ h3.rel,h3.agg⟩,h2.ok h4⟩
 | .row R y::rs,u::us,z,z',.r h1 h2,h=>by
  simp only [tes,zB,TE.ok] at h ⊢;obtain ⟨v,vs,e,h3,h4⟩:=h;cases e;exact ⟨u,us,rfl,rfl,h2.ok h4⟩
theorem Flats.own:∀ {rs:List RE} {us:List zd} {z z':Store} {h:za} {p:zd×Obj},Flats rs->p∈owns rs us->p.2.ok z' h p.1->p.2.ok z h p.1
 | [],us,_,_,_,p,_,hp,_=>by simp [owns] at hp
 | .val R y::rs,[],_,_,_,p,_,hp,_=>by simp [owns] at hp
 | .row R y::rs,[],_,_,_,p,_,hp,_=>by simp [owns] at hp
 | .val R y::rs,u::us,z,z',h,p,.v h1 h2,hp,ho=>by simp only [owns] at hp; exact h2.own hp ho
 | .row R y::rs,u::us,z,z',h,p,.r h1 h2,hp,ho=>by
  simp only [owns] at hp;rcases List.mem_cons.1 hp with rfl | hp
  . simp only [Obj.ok] at ho ⊢;refine ⟨ho.1, ?_⟩;rcases ho.2 with q | ⟨b,off,cap,cells,q1,q2,q3,q4,q5⟩
    . exact .inl q
    . exact .inr ⟨b,off,cap,cells,q1,q2,q3,q4,λi x hx=>h1 _ _ _ _ (q5 i x hx)⟩
  . exact h2.own hp ho
inductive Lend (M:Env) (L:Own):Operand->TE->Prop where
 | o {x:Operand} {e:TE} (h:Opd M x e):Lend M L x e
 | r {A:Type} {R:Rep A} {xs:List A} {v:zd} {x:Operand} (k:Nat) (h:Opd M x (.raw v)) (hk:L[k]?=Ob (v,.row R xs)):Lend M L x (.val (zb R) xs)
 | b {A:Type} {R:Rep A} {a:A} {es:List TE} {b:Nat} {x:Operand} (k:Nat) (h:Opd M x (.raw (.ptr b 0))) (hk:L[k]?=Ob (.ptr b 0,.box es)) (hc:Cells R a es):Lend M L x (.val (zL R) a)
theorem zpA (h:za):(h.st).Sub h:=λb x hb=>⟨(za.st_lt hb).2,(za.st_lt hb).1⟩
theorem zwV (hs:z.Sub h):z.le h.st:=λb x hb=>za.st_of (hs b x hb).2 (hs b x hb).1
theorem Lend.ok {x:Operand} {e:TE} (q:Lend M L x e) (s:StZ C M L z fr h):e.ok h.st (fr.op x):=by
 have hle:=zwV s.sub;cases q with
 | o h=>exact TE.ok_mono hle (h.ok s.fr)
 | @r A R xs v _ k h hk=>
  simp only [TE.ok];rw [h.raw s.fr];have ho:=s.own.ok _ (List.mem_of_getElem? hk);simp only [Obj.ok] at ho;refine zbU ⟨ho.1, ?_⟩;rcases ho.2 with ⟨q,e⟩ | ⟨b,off,cap,cells,q,h2,h3,h4,h5⟩
  . exact .inl ⟨q,e⟩
  . subst q;have hb:=(s.own.out _ (List.mem_of_getElem? hk) b (by simp [zeP,zhm])).2.1;exact .inr (.inr ⟨b,off,cap,cells,Oc,rfl,za.st_of hb h2,h3,λc hc=>(h4 c hc).1,λi x hx=>R.mono _ _ _ _ hle (h5 i x hx)⟩)
 | @b A R a es b _ k h hk hc=>
  simp only [TE.ok];rw [h.raw s.fr];have ho:=s.own.ok _ (List.mem_of_getElem? hk);simp only [Obj.ok] at ho;obtain ⟨b',cells,q,h2,h3,h4⟩:=ho;cases q;have hb:=(s.own.out _ (List.mem_of_getElem? hk) b (by simp [zeP,zhm])).2.1;have hr:=(hc z cells).2 h3;have hl:=R.len _ _ _ hr;refine zgc ⟨b,0,cells,Oc,rfl,za.st_of hb h2,by omega, ?_⟩;rw [List.drop_zero,← hl,List.take_length];exact R.mono _ _ _ _ hle hr
inductive Lends (M:Env) (L:Own):List Operand->List TE->Prop where
 | n:Lends M L [] []
 | c {x:Operand} {e:TE} {xs:List Operand} {es:List TE} (h:Lend M L x e) (r:Lends M L xs es):Lends M L (x::xs) (e::es)
theorem Lends.ok {xs:List Operand} {es:List TE} (q:Lends M L xs es) (s:StZ C M L z fr h):zB h.st es (xs.map fr.op):=by
 induction q with
 | n=>simp [zB]
 | c h _ ih=>simp only [zB,List.map]; exact ⟨_,_,rfl,h.ok s,ih⟩
theorem zr3 {g:FuncId} {as:List TE} {rs:List RE} (hfl:Flats rs) {vs:List zd} {h1:za} (s:StZ C M L z fr h1) (hf:Fun T g as rs) (hok:zB h1.st as vs) (hwm:h1.wm<=h1.next) :
    zlc T g vs h1 λr h'=>∃ us z',r=.ret (packed us)/\us.length=rs.length/\Quiet h1 h'/\z.le z'/\z'.Sub h'/\(∀ b,b<h1.next->z' b=z b)/\zB z' (tes rs us) us/\zgT ⟨z,h1,[]⟩ z' h' (owns rs us):=by
  refine (hf h1.st h1 _ (zpA h1) hwm hok).mono λr h' ⟨us,z',e1,hl,q,hz,hs,hold,hok,hown⟩=>⟨us,z,e1,hl,q,.refl _, ?_,λ_ _=>rfl,hfl.ok hok, ?_⟩
  · intro b y hb;obtain ⟨h2,h3⟩:=s.sub b y hb;exact ⟨by rw [q.same b h3]; exact h2,Nat.lt_of_lt_of_le h3 q.next⟩
  · refine ⟨λp hp=>hfl.own hp (hown.ok p hp),λp hp b hb=>?_,hown.nodup⟩;obtain ⟨o1,o2,o3⟩:=hown.out p hp b hb;refine ⟨?_,o2,o3⟩;rcases o3 with q1 | q1
    · cases e:z b with
      | none=>rfl
      | some y=>
        have:=(s.sub b y e).2;have q1:h1.next<=b:=q1;omega
    · cases q1
theorem zfF {c:Call} {x:Operand} {g:FuncId} {as:List TE} {rs:List RE} (hf:Fun T g as rs) (hfl:Flats rs) (hcst:T.consts.get g=Oe) (hw:Want ops M Od o.guard) (ho:o.op=.call c) (hd:o.dst=Ob t) (hc:c.callee=.value x) (hx:Opd M x (.raw (.func (.func g) [] []))) (hvs:Lends M L c.args.toList as)
 (hq:RQ rs L λes L'=>zm C T d ops rest ((t,zoK es)::M) L' Q):zm C T d ops (o::rest) M L Q:=by
 refine zkt hw hd hq λz fr h s=>⟨.func (.func g) [] [],c.args.toList.map fr.op,by rw [ho]; simp only [aop,zc1,hc,hx.raw s.fr],λh1 hn hg hwm=>?_⟩;refine zdf hcst ?_;rw [List.nil_append,List.append_nil];have est:h1.st=h.st:=by funext b; unfold za.st; rw [hn,hg]
 have s1:StZ ⟨z,h1,[]⟩ M [] z fr h1:=
  { zle:=.refl _,sub:=λb y hb=>by rw [hn,hg]; exact s.sub b y hb,old:=λ_ _ _=>rfl,fr:=s.fr,own:=⟨λp hp=>(nomatch hp),λp hp=>(nomatch hp),List.nodup_nil⟩,chg:=⟨Nat.le_refl _,λ_ _ _=>rfl,λ_ m1 _ _=>m1,hwm⟩ }
 have:=zr3 (T:=T) hfl s1 hf (by rw [est]; exact hvs.ok s) hwm;rw [hn] at this;exact this
theorem zzn {c:Call} {x:Operand} {g:FuncId} {p:List zd->Option zd} {vs:List zd} {v:zd} {e:TE} (hcst:T.consts.get g=Ob p) (hp:p vs=Ob v) (he:∀ z,e.ok z v) (hw:Want ops M Od o.guard) (ho:o.op=.call c) (hd:o.dst=Ob t) (hc:c.callee=.value x) (hx:Opd M x (.raw (.func (.func g) [] []))) (hvs:∀ z fr,ziJ z M fr->c.args.toList.map fr.op=vs)
    (r:zm C T d ops rest ((t,e)::M) L Q):zm C T d ops (o::rest) M L Q:=by
  cases d with
  | none=>
    intro fr h ⟨z,s⟩;have ha:aop T fr.op h o.op=Ob (.call (.func (.func g) [] []) vs):=by
      rw [ho]; simp only [aop,zc1,hc,hx.raw s.fr,hvs z fr s.fr]
    simp only [wX,hw.ok s.fr,ha,hd,zaU];exact zkl hcst (by simpa using hp) ⟨v,rfl,r _ _ ⟨z,s.set (he z)⟩⟩
  | some ol=>
    intro z fr h i done s hr hok hdn;have ha:aop T fr.op h o.op=Ob (.call (.func (.func g) [] []) vs):=by
      rw [ho]; simp only [aop,zc1,hc,hx.raw s.fr,hvs z fr s.fr]
    have hi:ops[i]?=Ob o:=by have:=congrArg (λl=>l[0]?) hr; simpa using this
    have hlt:i<ops.length:=(List.getElem?_eq_some_iff.1 hi).1;have hr':ops.drop (i+1)=rest:=by have:=congrArg List.tail hr; simpa using this
    have n1:zdl o.op=Oc:=by rw [ho]; simp only [zdl,hc]
    have n2:zkm o.op=Oc:=by rw [ho]; simp only [zkm,hc]
    refine zkk (hw.ok s.fr) ha s.chg.ok (zfW hi hdn (zg2 hok i hlt) rfl ⟨λb hb=>(nomatch hb),λb hb=>(nomatch hb)⟩ (λq=>by rw [n1] at q; cases q) (λq=>by rw [n2] at q; cases q) (λ_=>rfl) (λt et y q=>by rw [ho] at q; cases q) (λt a q=>by rw [ho] at q; cases q) (λq=>by rw [ho] at q; simp [zhR,hc] at q)) ?_;refine zkl hcst (by simpa using hp) ⟨v,rfl,Quiet.refl _, ?_⟩;have e:({ lay h h.next with wm:=min h.wm (lay h h.next).wm }:za)=h:=zup s.chg.ok;have hn:=hdn.next (z':=z) (h':=h) (v:=v) hi (.refl _) (Nat.le_refl _) [(i,⟨[],Od,[],Oc⟩)] (λp hp=>by
      rw [List.mem_singleton] at hp;subst hp;refine ⟨rfl,rfl,λ_=>rfl,λq=>(by rw [ho] at q; cases q),λb hb=>(by simp at hb),λq=>?_⟩;unfold zeG at q;rw [n1,ho] at q;simp [zoG,znx,hc] at q) (λhal=>(ziV hal ha).elim) (λr q=>by rw [ho] at q; cases q) (λp _ t a q=>by rw [ho] at q; cases q) (λp _ q=>by rw [ho] at q; simp [zhR,hc] at q) (λp _ t a y q=>by rw [ho] at q; cases q)
    rw [hd,zaU] at hn ⊢;have:=r z _ h (i+1) _ (s.set (he z)) hr' hok hn;exact e.symm▸this
def zCa (id:Nat) (P:zaQ->zi->za->Prop):zaQ->zi->za->Prop
 | .exit i=>bif Nat.beq i id then P .normal else P (.exit i)
 | e=>P e
def zCb (C:Ctx) (T:Tab) (b:Code) (P:zaQ->zi->za->Prop):zaQ->zi->za->Prop
 | .normal=>λfr h=>Run T b fr h P
 | e=>P e
theorem zqI {a b:Code} (r:zeW C T a M L (zCb C T b P)):zeW C T (.seq a b) M L P:=λfr h s=>
 zwK ((r fr h s).mono λe _ _ q=>by cases e<;>exact q)
theorem zku {id:Nat} {c:Code} (r:zeW C T c M L (zCa id P)):zeW C T (.block id c) M L P:=λfr h s=>
 zrL ((r fr h s).mono λe _ _ q=>by
  cases e with
  | exit i=>
   simp only [zCa] at q;simp only [zpr];by_cases e:i=id
   . subst e; rw [if_pos rfl]; simpa using q
   . have:Nat.beq i id=Oc:=by rw [Bool.eq_false_iff]; intro q; exact e (Nat.eq_of_beq_eq_true q)
     rw [this] at q; rw [if_neg e]; exact q
  | _=>exact q)
theorem zhp {id:Nat} {ops:Array Oper} (r:zm C T Oe ops.toList ops.toList M L (P .normal)):zeW C T (.region id ops Oc) M L P:=λfr h s=>zqB (zjI (r fr h s))
def zr4 (ol:List Nat) (M:Env) (L:Own):Prop:=∀ r∈ze8 ol,∀ r'∈zcM ol,r≠r'->∃ (b o j:Nat) (p:zd×Obj),look M r=Ob (.raw (.ptr b o))/\L[j]?=Ob p/\b∈zeP p/\((∃ (b' o' j':Nat) (p':zd×Obj),look M r'=Ob (.raw (.ptr b' o'))/\L[j']?=Ob p'/\b'∈zeP p'/\j≠j')\/∃ (A:Type) (R:Rep A) (x:A),look M r'=Ob (.val (zL R) x))
theorem zr4.ok {ol:List Nat} (h:zr4 ol M L) {z:Store} {fr:zi} {hh:za} (s:StZ C M L z fr hh):∀ r∈ze8 ol,∀ r'∈zcM ol,r≠r'->∀ x∈zS (fr.ev r),x∉zS (fr.ev r'):=by
 intro r hr r' hr' hne x hx hx';obtain ⟨b,o,j,p,h1,h2,h3,h4⟩:=h r hr r' hr' hne;have e:=s.fr _ _ h1;simp only [TE.ok] at e;rw [e] at hx;simp only [zS,List.mem_singleton] at hx;subst hx;rcases h4 with ⟨b',o',j',p',k1,k2,k3,k4⟩ | ⟨A,R,y,k1⟩
 . have e':=s.fr _ _ k1;simp only [TE.ok] at e';rw [e'] at hx';simp only [zS,List.mem_singleton] at hx';subst hx';exact k4 (zdC s.own.nodup h2 k2 h3 k3)
 . have e':=s.fr _ _ k1;simp only [TE.ok] at e';obtain ⟨b',off,cells,ro,q1,q2,_⟩:=zik e';rw [q1] at hx';simp only [zS,List.mem_singleton] at hx';subst hx';rw [(s.own.out _ (List.mem_of_getElem? h2) _ h3).1] at q2;cases q2
theorem zzo {ol:List Nat} (h:ze8 ol=[]):zr4 ol M L:=λr hr=>by rw [h] at hr; cases hr
inductive RAt (M:Env) (L:Own):Nat->Option Nat->Prop where
 | o {r b o j:Nat} {es:List TE} (hl:look M r=Ob (.raw (.ptr b o))) (hj:L[j]?=Ob (.ptr b 0,.box es)):RAt M L r (Ob j)
 | q {A:Type} {R:Rep A} {x:A} {r:Nat} (hl:look M r=Ob (.val (zL R) x)):RAt M L r Oe
inductive zyT (M:Env) (L:Own):List Nat->List (Option Nat)->Prop where
 | n:zyT M L [] []
 | c {r:Nat} {j:Option Nat} {rs:List Nat} {js:List (Option Nat)} (h:RAt M L r j) (t:zyT M L rs js):zyT M L (r::rs) (j::js)
theorem zyT.at {rs:List Nat} {js:List (Option Nat)} (h:zyT M L rs js):∀ {r:Nat},r∈rs->∃ (i:Nat) (j:Option Nat),rs[i]?=Ob r/\js[i]?=Ob j/\RAt M L r j:=by
 induction h with
 | n=>intro r hr; cases hr
 | @c r0 j0 _ _ h _ ih=>
  intro r hr;rcases List.mem_cons.1 hr with rfl | hr
  . exact ⟨0,j0,rfl,rfl,h⟩
  . obtain ⟨i,j,h1,h2,h3⟩:=ih hr;exact ⟨i+1,j,h1,h2,h3⟩
def neO (k:Nat):Option Nat->Bool
 | some k'=>!Nat.beq k k'
 | none=>Od
def zwW:List (Option Nat)->Bool
 | []=>Od
 | some k::js=>js.all (neO k)&&zwW js
 | none::js=>zwW js
theorem zoL:∀ {js:List (Option Nat)} {a b k:Nat},zwW js=Od->a<b->js[a]?=Ob (Ob k)->js[b]?=Ob (Ob k)->False
 | j::js,0,b+1,k,h,_,h1,h2=>by
  cases h1;simp only [zwW,Bool.and_eq_true] at h;have:=List.all_eq_true.1 h.1 (Ob k) (List.mem_of_getElem? (i:=b) h2);simp [neO] at this
 | j::js,a+1,b+1,k,h,hlt,h1,h2=>by
  have h:zwW js=Od:=by
   cases j with
   | none=>exact h
   | some q=>simp only [zwW,Bool.and_eq_true] at h; exact h.2
  exact zoL (js:=js) (a:=a) (b:=b) h J h1 h2
 | [],_,_,_,_,_,h1,_=>by cases h1
 | _,_,0,_,_,hlt,_,_=>by omega
theorem rdists {ol rs:List Nat} {js:List (Option Nat)} (h:zcM ol=rs) (h2:∀ r∈ze8 ol,∀ j,RAt M L r j->j≠Oe) (ha:zyT M L rs js) (hj:zwW js=Od):zr4 ol M L:=λr hr r' hr' hne=>by
 subst h;obtain ⟨i,j,a1,a2,a3⟩:=ha.at (znB hr);obtain ⟨i',j',b1,b2,b3⟩:=ha.at hr';have hii:i≠i':=λe=>by subst e; rw [a1] at b1; exact hne (Option.some.inj b1)
 have hjn:=h2 r hr j a3;cases a3 with
 | q _=>exact absurd rfl hjn
 | @o _ b o k es l1 l2=>
  refine ⟨b,o,k,_,l1,l2,by simp [zeP,zhm], ?_⟩;cases b3 with
  | q m=>exact .inr ⟨_,_,_,m⟩
  | @o _ b' o' k' es' m1 m2=>
   refine .inl ⟨b',o',k',_,m1,m2,by simp [zeP,zhm],λe=>?_⟩;subst e;rcases Nat.lt_or_gt_of_ne hii with q | q
   ·exact zoL hj q a2 b2
   ·exact zoL hj q b2 a2
theorem rown {r:Nat} {v:zd} (h:look M r=Ob (.raw v)):∀ j,RAt M L r j->j≠Oe:=λj q e=>by
 subst e;cases q with
 | q hl=>rw [h] at hl; cases hl
def zpB (M:Env):List Nat->Bool
 | []=>Od
 | r::rs=>(match look M r with | some (.raw _)=>Od | _=>Oc)&&zpB M rs
theorem rowns {ol:List Nat} (h:zpB M (ze8 ol)=Od):∀ r∈ze8 ol,∀ j,RAt M L r j->j≠Oe:=by
 have key:∀ rs:List Nat,zpB M rs=Od->∀ r∈rs,∃ v,look M r=Ob (.raw v):=by
  intro rs;induction rs with
  | nil=>intro _ r hr; cases hr
  | cons r0 rs ih=>
   intro q r hr;simp only [zpB,Bool.and_eq_true] at q;rcases List.mem_cons.1 hr with rfl | hr
   . have:=q.1;split at this
     . rename_i v e; exact ⟨v,e⟩
     . cases this
   . exact ih q.2 r hr
 intro r hr;obtain ⟨v,hv⟩:=key _ h r hr;exact rown hv
theorem RDO {p:Prop} (h:p:=by first | exact zzo rfl | exact rdist1 rfl rfl):p:=h
theorem zaK {id:Nat} {ops:Array Oper} (ol:List Nat) (hok:znA ops.toList ol ops.toList.length=Od) (r:zm C T (Ob ol) ops.toList ops.toList M L (P .normal)) (hdi:zr4 ol M L:=by exact RDO):zeW C T (.region id ops Od) M L P:=λfr h ⟨z,s⟩=>
 zuj (r z fr h 0 [] s rfl hok ⟨λ_ hp=>(nomatch hp),λj _ _ hj=>(nomatch hj),λ_ _ _ _ hj=>(nomatch hj),λ_ _ _ _ hp=>(nomatch hp),λ_ hp=>(nomatch hp),λ_ hp=>(nomatch hp),λr hr r' hr' hne _ _=>hdi.ok s r hr r' hr' hne⟩)
theorem zdL (q:∀ fr h,St C M L fr h->P .normal fr h):zeW C T .skip M L P:=λfr h s=>zpp (q fr h s)
theorem zpC {id:Nat} (q:∀ fr h,St C M L fr h->P (.exit id) fr h):zeW C T (.exit id) M L P:=λfr h s=>zpq (q fr h s)
theorem zdR (q:∀ fr h,St C M L fr h->P .ret fr h):zeW C T .ret M L P:=λfr h s=>zwJ (q fr h s)
theorem zr5 {c:Operand} {a b:Code} {q:Bool} (hc:Opd M c (.val zw q)) (r1:q=Od->zeW C T a M L P) (r0:q=Oc->zeW C T b M L P):zeW C T (.cond c a b) M L P:=by
 intro fr h s;have s0:=s;obtain ⟨z,s⟩:=s;refine zui (hc.bool s.fr) ?_;cases q with
 | true=>exact r1 rfl fr h s0
 | false=>exact r0 rfl fr h s0
theorem zoM {c:Code} (hg:∀ l fr h,¬ P (.goto l) fr h) (r:zeW C T c M L P):zeW C T (.scope c) M L P:=λfr h s=>zrM (r fr h s) hg
def iter {σ τ:Type} (f:σ->Option (σ⊕τ)):Nat->σ->Option τ
 | 0,_=>Oe
 | n+1,s=>match f s with
  | some (.inl s')=>iter f n s'
  | some (.inr t)=>Ob t
  | none=>Oe
abbrev Sts:=Env×Own
def zwX (C:Ctx) {σ τ G:Type} (I:σ->G->Sts) (X:τ->zaQ×(G->Sts)) (r:σ⊕τ) (e:zaQ) (fr:zi) (h:za):Prop:=
 match r with
 | .inl s=>e=.normal/\∃ g,St C (I s g).1 (I s g).2 fr h
 | .inr t=>e=(X t).1/\∃ g,St C ((X t).2 g).1 ((X t).2 g).2 fr h
theorem zzp {σ τ G:Type} {c:Code} (I:σ->G->Sts) (X:τ->zaQ×(G->Sts)) (f:σ->Option (σ⊕τ)) {n:Nat} {s0:σ} {t:τ} (g0:G) (hit:iter f n s0=Ob t) (hin:∀ fr h,St C M L fr h->St C (I s0 g0).1 (I s0 g0).2 fr h) (hne:∀ t,(X t).1≠.normal)
    (body:∀ s g r,f s=Ob r->zeW C T c (I s g).1 (I s g).2 (zwX C I X r)) (out:∀ g,∀ fr h,St C ((X t).2 g).1 ((X t).2 g).2 fr h->P (X t).1 fr h):zeW C T (.loop c) M L P:=by
  suffices H:∀ n s0 g0,iter f n s0=Ob t->∀ fr h,St C (I s0 g0).1 (I s0 g0).2 fr h->Run T (.loop c) fr h P from λfr h s=>H n s0 g0 hit fr h (hin fr h s)
  clear hit hin n s0 g0;intro n;induction n with
  | zero=>intro s0 g0 hit; cases hit
  | succ n ih=>
    intro s0 g0 hit fr h s;simp only [iter] at hit;split at hit
    · rename_i s' hf;obtain ⟨m,e,fr',h',h1,rfl,g,h2⟩:=body s0 g0 _ hf fr h s;obtain ⟨k,e2,fr2,hh2,h3,h4⟩:=ih s' g hit fr' h' h2;refine ⟨max m k+1,e2,fr2,hh2, ?_,h4⟩;rw [aexec,zdZ (Nat.le_max_left m k) _ _ _ _ h1];exact zdZ (Nat.le_max_right m k) _ _ _ _ h3
    · rename_i t' hf;cases hit;obtain ⟨m,e,fr',h',h1,he,g,h2⟩:=body s0 g0 _ hf fr h s;refine ⟨m+1,e,fr',h', ?_,by rw [he]; exact out g fr' h' h2⟩;have:=hne t;rw [aexec,h1];rw [he];cases hx:(X t).1 with
      | normal=>exact absurd hx this
      | _=>rfl
    · cases hit
def zCc (C:Ctx) {τ G:Type} (X:τ->zaQ×(G->Sts)) (t:τ) (e:zaQ) (fr:zi) (h:za):Prop:=e=(X t).1/\∃ g,St C ((X t).2 g).1 ((X t).2 g).2 fr h
theorem zBd {τ G:Type} {c:Code} (X:τ->zaQ×(G->Sts)) {t:τ} (r:zeW C T c M L (zCc C X t)) (out:∀ g,∀ fr h,St C ((X t).2 g).1 ((X t).2 g).2 fr h->P (X t).1 fr h):zeW C T c M L P:=λfr h s=>
 (r fr h s).mono λe fr' h' ⟨he,g,q⟩=>by rw [he]; exact out g fr' h' q
def entry:Nat->List TE->Env
 | _,[]=>[]
 | i,e::es=>(i,e)::entry (i+1) es
theorem argFrame_ev:∀ {vs:List zd} {i:Nat} {fr:zi} {t:Nat},t<i->(zcK i vs fr).ev t=fr.ev t
 | [],_,_,_,_=>rfl
 | v::vs,i,fr,t,h=>by
  simp only [zcK];rw [argFrame_ev J,zi.ev_set,if_neg J]
theorem zjM:∀ {es:List TE} {vs:List zd} {i:Nat} {fr:zi},zB z es vs->ziJ z (entry i es) (zcK i vs fr)
 | [],_,_,_,_,t,e,h=>by cases h
 | a::es,_,i,fr,hok,t,e,h=>by
  simp only [zB] at hok;obtain ⟨v,vs,rfl,h1,h2⟩:=hok;simp only [entry,look] at h;simp only [zcK];cases hb:Nat.beq i t with
  | true=>
   have:=Nat.eq_of_beq_eq_true hb;subst this;rw [hb] at h;cases h;rw [argFrame_ev J,zi.ev_set,if_pos rfl];exact h1
  | false=>rw [hb] at h; exact zjM h2 t e h
def zAH (C:Ctx) (T:Tab) (res:List ResultVar) (rs:List RE) (e:zaQ) (fr:zi) (h:za):Prop:=
 (e=.normal\/e=.ret)/\∃ us z,aresults T res fr h=Ob us/\us.length=rs.length/\C.z0.le z/\z.Sub h/\(∀ b,b<C.h0.next->b∉C.B0->z b=C.z0 b)/\zB z (tes rs us) us/\zgT C z h (owns rs us)/\Chg C h
theorem zmC {res:List ResultVar} {rs:List RE}:∀ l fr h,¬ zAH C T res rs (.goto l) fr h:=λl fr h q=>by rcases q.1 with e | e<;>cases e
inductive Rets (T:Tab) (M:Env) (L:Own):List ResultVar->List RE->List Nat->Prop where
 | n:Rets T M L [] [] []
 | v {A:Type} {R:Rep A} {y:A} {t:Nat} {res:List ResultVar} {rs:List RE} {ks:List Nat} (h:look M t=Ob (.val R y)) (r:Rets T M L res rs ks):Rets T M L (.tmp t::res) (.val R y::rs) ks
 | r {A:Type} {R:Rep A} {ys:List A} {v:zd} {t:Nat} {res:List ResultVar} {rs:List RE} (k:Nat) {ks:List Nat} (h:look M t=Ob (.raw v)) (hk:L[k]?=Ob (v,.row R ys)) (r:Rets T M L res rs ks):Rets T M L (.tmp t::res) (.row R ys::rs) (k::ks)
 | c {A:Type} {R:Rep A} {y:A} {t:Nat} {ty:TypeId} {res:List ResultVar} {rs:List RE} {ks:List Nat} (hu:Und T ty R) (h:look M t=Ob (.val (zL R) y)) (r:Rets T M L res rs ks):Rets T M L (.cell t ty::res) (.val R y::rs) ks
 | b {A:Type} {R:Rep A} {y:A} {t b:Nat} {ty:TypeId} {es:List TE} {res:List ResultVar} {rs:List RE} (k:Nat) {ks:List Nat} (hu:Und T ty R) (hc:Cells R y es) (h:look M t=Ob (.raw (.ptr b 0))) (hk:L[k]?=Ob (.ptr b 0,.box es)) (r:Rets T M L res rs ks):Rets T M L (.cell t ty::res) (.val R y::rs) ks
 | a {A:Type} {R:Rep A} {ys:List A} {n:Nat} {t b:Nat} {ty et:TypeId} {res:List ResultVar} {rs:List RE} (k:Nat) {ks:List Nat} (har:Ar1 T ty et n R) (h:look M t=Ob (.raw (.ptr b 0))) (hk:L[k]?=Ob (.slice b 0 n R.sz (Ob n),.row R ys)) (r:Rets T M L res rs ks):Rets T M L (.cell t ty::res) (.val (zjJ n R) ys::rs) ks
theorem Rets.ok {res:List ResultVar} {rs:List RE} {ks:List Nat} (q:Rets T M L res rs ks) (s:StZ C M L z fr h):∃ us,aresults T res fr h=Ob us/\us.length=rs.length/\zB z (tes rs us) us/\owns rs us=picks L ks:=by
 induction q with
 | n=>exact ⟨[],rfl,rfl,by simp [tes,zB],rfl⟩
 | @v A R y t res rs ks hl _ ih=>
  obtain ⟨us,h1,h2,h3,h4⟩:=ih;have:=s.fr _ _ hl;refine ⟨fr.ev t::us,by simp only [aresults,aresult,h1],by simp [h2], ?_,by simpa only [owns] using h4⟩;simp only [tes,zB];exact ⟨_,_,rfl,this,h3⟩
 | @r A R ys v t res rs k ks hl hk _ ih=>
  obtain ⟨us,h1,h2,h3,h4⟩:=ih;have:=s.fr _ _ hl;simp only [TE.ok] at this;refine ⟨fr.ev t::us,by simp only [aresults,aresult,h1],by simp [h2], ?_, ?_⟩
  . simp only [tes,zB,TE.ok];exact ⟨_,_,rfl,rfl,h3⟩
  . simp only [owns,picks,hk,h4,this]
 | @c A R y t ty res rs ks hu hl _ ih=>
  obtain ⟨us,h1,h2,h3,h4⟩:=ih;have hp:=s.fr _ _ hl;simp only [TE.ok] at hp;obtain ⟨b,off,cells,ro,e1,e2,e3,e4⟩:=zik hp;obtain ⟨v,h5,h6⟩:=zfi hu.sz hu.agg e3 e4;refine ⟨v::us,by simp only [aresults,aresult,aload,e1,(s.sub _ _ e2).1,h5,h1],by simp [h2], ?_,by simpa only [owns] using h4⟩;simp only [tes,zB,TE.ok];exact ⟨_,_,rfl,h6,h3⟩
 | @b A R y t b ty es res rs k ks hu hc hl hk _ ih=>
  obtain ⟨us,h1,h2,h3,h4⟩:=ih;have hp:=s.fr _ _ hl;simp only [TE.ok] at hp;have hob:=s.own.ok _ (List.mem_of_getElem? hk);simp only [Obj.ok] at hob;obtain ⟨b',cells,q',g2,g3,g4⟩:=hob;cases q';have hr:=(hc z cells).2 g3;have hlen:=R.len _ _ _ hr;obtain ⟨v,h5,h6⟩:=zfi (off:=0) (cells:=cells) hu.sz hu.agg J (by rw [List.drop_zero,← hlen,List.take_length]; exact hr);refine ⟨v::us,by simp only [aresults,aresult,aload,hp,g2,h5,h1],by simp [h2], ?_,by simpa only [owns] using h4⟩;simp only [tes,zB,TE.ok];exact ⟨_,_,rfl,h6,h3⟩
 | @a A R ys n t b ty et res rs k ks har hl hk _ ih=>
  obtain ⟨us,h1,h2,h3,h4⟩:=ih;have hp:=s.fr _ _ hl;simp only [TE.ok] at hp;have hr:=s.own.ok _ (List.mem_of_getElem? hk);simp only [Obj.ok] at hr;rcases hr.2 with ⟨q,_⟩ | ⟨b',off,cap,cells,q,g1,g2,g3,g4⟩
  . cases q
  . cases q;have hcl:0+ys.length*R.sz<=cells.length:=g2;have hl':((cells.drop 0).take (ys.length*R.sz)).length=ys.length*R.sz:=by simp; omega
    have hpp:∀ i x,ys[i]?=Ob x->R.rel z ((((cells.drop 0).take (ys.length*R.sz)).drop (i*R.sz)).take R.sz) x:=by
     intro i x hi;have h6:=zer (off:=0) (i:=i) (R:=R) (cells:=cells.take (ys.length*R.sz)) Oj hi;rw [List.drop_zero,List.drop_take,List.take_take,Nat.min_eq_left]
     . have:=g4 i x hi; rwa [Nat.zero_add] at this
     . simp at h6; omega
    refine ⟨.agg ((cells.drop 0).take (ys.length*R.sz))::us, ?_,by simp [h2], ?_,by simpa only [owns] using h4⟩
    . simp only [aresults,aresult,aload,hp,g1,Go.Ai.apart,har.isagg,har.whole,h1];rw [if_pos J]
    . simp only [tes,zB,TE.ok];exact ⟨_,_,rfl,⟨⟨rfl,hl',ziY har.pos hl' hpp,hpp⟩,rfl⟩,h3⟩
theorem zdd {e:zaQ} {res:List ResultVar} {rs:List RE} {ks:List Nat} (he:e=.normal\/e=.ret) (q:Rets T M L res rs ks) (hn:ks.Nodup):∀ fr h,St C M L fr h->zAH C T res rs e fr h:=by
 intro fr h ⟨z,s⟩;obtain ⟨us,h1,h2,h3,h4⟩:=q.ok s;obtain ⟨z',s'⟩:=(show St C M L fr h from ⟨z,s⟩);refine ⟨he,us,z,h1,h2,s.zle,s.sub,s.old,h3, ?_,s.chg⟩;rw [h4];refine ⟨λp hp=>?_,λp hp=>?_,zcF s.own.nodup hn⟩
 . obtain ⟨i,_,h2⟩:=zdQ hp;exact s.own.ok p (List.mem_of_getElem? h2)
 . obtain ⟨i,_,h2⟩:=zdQ hp;exact s.own.out p (List.mem_of_getElem? h2)
theorem zzq {g:FuncId} {F:Func} {c:Code} {as:List TE} {rs:List RE} (hF:T.funcs.get g=Ob F) (hb:F.body=Ob c) (hn:Nat.blt F.ntmps as.length=Oc) (run:∀ C,C.B0=[]->zeW C T c (entry 0 as) [] (zAH C T F.results.toList rs)):Fun T g as rs:=by
 intro z h vs hsub hwm hok;refine zmt hF hb (by rw [zbX hok]; exact hn) ?_;have s0:StZ ⟨z,h,[]⟩ (entry 0 as) [] z (zcK 0 vs .leaf) h:=
  { zle:=.refl _,sub:=hsub,old:=λ_ _ _=>rfl,fr:=zjM hok,own:=⟨λp hp=>(nomatch hp),λp hp=>(nomatch hp),List.nodup_nil⟩,chg:=⟨Nat.le_refl _,λ_ _ _=>rfl,λ_ m1 _ _=>m1,hwm⟩ }
 refine (run ⟨z,h,[]⟩ rfl _ _ ⟨z,s0⟩).mono λe fr h' ⟨he,us,z',h1,h2,h3,h4,h5,h6,h7,h8⟩=>⟨he,us,h1,us,z',rfl,h2, ?_,h3,h4,λb hb=>h5 b hb (λq=>nomatch q),h6,h7⟩;exact ⟨h8.next,λb hb=>h8.same b hb (λq=>nomatch q),h8.wm _ (Nat.min_le_left _ _) (Nat.min_le_right _ _) (λ_ q=>nomatch q),λ_=>h8.ok⟩
end
abbrev big:Nat:=18446744073709551616
theorem Of {p:Prop} (h:p:=by simp only [big]; omega):p:=h
theorem bnd {α β:Type} {m:Option α} {k:α->Option β} {y:β} (h:m.bind k=Ob y):∃ x,m=Ob x/\k x=Ob y:=Option.bind_eq_some_iff.1 h
theorem zCp {β:Type} {c:Bool} {a b:Option β} {y:β} (h:cond c a b=Ob y) (q:c=Od):a=Ob y:=by rw [q] at h; exact h
theorem zCq {β:Type} {c:Bool} {a b:Option β} {y:β} (h:cond c a b=Ob y) (q:c=Oc):b=Ob y:=by rw [q] at h; exact h
def alt {α β γ:Type} (f:α->γ) (g:β->γ):α⊕β->γ
 | .inl a=>f a
 | .inr b=>g b
abbrev XT (τ:Type):Type 1:=τ->zaQ×(List zd->Sts)
def zAI {α β:Type} (f:XT α) (g:XT β):XT (α⊕β)
 | .inl a=>f a
 | .inr b=>g b
theorem zwY {α β γ:Type} {f:α->Option γ} {g:β->Option γ} {a:α} {y:γ} (h:alt f g (.inl a)=Ob y):f a=Ob y:=h
theorem zwZ {α β γ:Type} {f:α->Option γ} {g:β->Option γ} {b:β} {y:γ} (h:alt f g (.inr b)=Ob y):g b=Ob y:=h
theorem gt1 {b:Bool} (h:b=Od):(b==Od)=Od:=by rw [h]; rfl
theorem gt0 {b:Bool} (h:b=Oc):(b==Od)=Oc:=by rw [h]; rfl
theorem gf1 {b:Bool} (h:b=Od):(b==Oc)=Oc:=by rw [h]; rfl
theorem gf0 {b:Bool} (h:b=Oc):(b==Oc)=Od:=by rw [h]; rfl
def zf6 (k:IntKind) (a b:Int):Option Int:=if b=0 then Oe else Ob (k.wrap (a.tdiv b))
theorem zux {k:IntKind} {a b n:Int} (h:zf6 k a b=Ob n):Ar k a b .quo n:=by
 unfold zf6 at h;split at h
 . cases h
 . cases h; exact .quo (by assumption)
def zri (a b:Int):Option Int:=if b=0 then Oe else Ob (a.tmod b)
theorem zuy {a b n:Int} (h:zri a b=Ob n):b≠0/\n=a.tmod b:=by
 unfold zri at h;split at h
 . cases h
 . cases h; exact ⟨by assumption,rfl⟩
def zyU (k:IntKind) (a b:Int):Option Int:=if 0<=b then Ob (k.wrap (a*2 ^ (min b.toNat k.bits))) else Oe
theorem zuz {k:IntKind} {a b n:Int} (h:zyU k a b=Ob n):0<=b/\n=k.wrap (a*2 ^ (min b.toNat k.bits)):=by
 unfold zyU at h;split at h
 . cases h; exact ⟨by assumption,rfl⟩
 . cases h
def zhT (k:IntKind) (a b:Int):Option Int:=if 0<=b then Ob (a.fdiv (2 ^ (min b.toNat k.bits))) else Oe
theorem zuA {k:IntKind} {a b n:Int} (h:zhT k a b=Ob n):0<=b/\n=a.fdiv (2 ^ (min b.toNat k.bits)):=by
 unfold zhT at h;split at h
 . cases h; exact ⟨by assumption,rfl⟩
 . cases h
def slO {A:Type} (xs:List A) (i j:Int):Option (List A):=if 0<=i/\i<=j/\j<=zq xs then Ob ((xs.take j.toNat).drop i.toNat) else Oe
theorem zw0 {A:Type} {xs ys:List A} {i j:Int} (h:slO xs i j=Ob ys):(0<=i/\i<=j/\j<=zq xs)/\ys=(xs.take j.toNat).drop i.toNat:=by
 unfold slO at h;split at h
 . cases h; exact ⟨by assumption,rfl⟩
 . cases h
section
variable {C:Ctx} {T:Tab} {d:Option (List Nat)} {ops rest:List Oper} {M:Env} {L:Own} {Q:zi->za->Prop} {P:zaQ->zi->za->Prop} {o:Oper} {t:Nat} {z:Store} {fr:zi} {h:za}
theorem zBe {c x y:Operand} {e:TE} {b:Bool} (hb:b=Od) (hw:Want ops M Od o.guard) (ho:o.op=.pick c x y) (hd:o.dst=Ob t) (hc:Opd M c (.val zw b)) (hx:Opd M x e)
 (r:zm C T d ops rest ((t,e)::M) L Q):zm C T d ops (o::rest) M L Q:=by subst hb; exact zwN hw ho hd hc hx r
theorem zBf {c x y:Operand} {e:TE} {b:Bool} (hb:b=Oc) (hw:Want ops M Od o.guard) (ho:o.op=.pick c x y) (hd:o.dst=Ob t) (hc:Opd M c (.val zw b)) (hy:Opd M y e)
 (r:zm C T d ops rest ((t,e)::M) L Q):zm C T d ops (o::rest) M L Q:=by subst hb; exact zwO hw ho hd hc hy r
theorem zzr {u u':TypeId} {k:IntKind} {x y:Operand} {a b n:Int} (hn:zri a b=Ob n) (hw:Want ops M Od o.guard) (ho:o.op=.binOp .rem u x y u') (hd:o.dst=Ob t) (hx:Opd M x (.val (zh k) a)) (hy:Opd M y (.val (zh k) b))
 (r:zm C T d ops rest ((t,.val (zh k) n)::M) L Q):zm C T d ops (o::rest) M L Q:=by
 obtain ⟨h1,rfl⟩:=zuy hn; exact zAZ hw ho hd hx hy h1 r
theorem zzs {u u':TypeId} {k k':IntKind} {x y:Operand} {a b n:Int} (hn:zyU k a b=Ob n) (hw:Want ops M Od o.guard) (ho:o.op=.binOp .shl u x y u') (hd:o.dst=Ob t) (hx:Opd M x (.val (zh k) a)) (hy:Opd M y (.val (zh k') b))
 (r:zm C T d ops rest ((t,.val (zh k) n)::M) L Q):zm C T d ops (o::rest) M L Q:=by
 obtain ⟨h1,rfl⟩:=zuz hn; exact zA0 hw ho hd hx hy h1 r
theorem zzt {u u':TypeId} {k k':IntKind} {x y:Operand} {a b n:Int} (hn:zhT k a b=Ob n) (hw:Want ops M Od o.guard) (ho:o.op=.binOp .shr u x y u') (hd:o.dst=Ob t) (hx:Opd M x (.val (zh k) a)) (hy:Opd M y (.val (zh k') b))
 (r:zm C T d ops rest ((t,.val (zh k) n)::M) L Q):zm C T d ops (o::rest) M L Q:=by
 obtain ⟨h1,rfl⟩:=zuA hn; exact zA1 hw ho hd hx hy h1 r
inductive Bnd (M:Env):Option Operand->Int->Int->Prop where
 | n {i:Int}:Bnd M Oe i i
 | s {y:Operand} {k:IntKind} {i j:Int} (h:Opd M y (.val (zh k) i)):Bnd M (Ob y) j i
theorem zBg {A:Type} {R:Rep A} {x:Operand} {lo hi:Option Operand} {xs ys:List A} {st et:TypeId} {i j:Int} (hsl:Sl T st et R) (hn:slO xs i j=Ob ys) (hw:Want ops M Od o.guard) (ho:o.op=.slice st x lo hi Oe) (hd:o.dst=Ob t)
    (hx:Opd M x (.val (zb R) xs)) (hlo:Bnd M lo 0 i) (hhi:Bnd M hi (zq xs) j) (r:zm C T d ops rest ((t,.val (zb R) ys)::M) L Q):zm C T d ops (o::rest) M L Q:=by
  obtain ⟨h1,rfl⟩:=zw0 hn;cases hlo with
  | n=>
    cases hhi with
    | n=>exact zmB (kl:=.i64) (kh:=.i64) hsl h1 hw ho hd hx (.inl ⟨rfl,rfl⟩) (.inl ⟨rfl,rfl⟩) r
    | s h=>exact zmB (kl:=.i64) hsl h1 hw ho hd hx (.inl ⟨rfl,rfl⟩) (.inr ⟨_,rfl,h⟩) r
  | s h'=>
    cases hhi with
    | n=>exact zmB (kh:=.i64) hsl h1 hw ho hd hx (.inr ⟨_,rfl,h'⟩) (.inl ⟨rfl,rfl⟩) r
    | s h=>exact zmB hsl h1 hw ho hd hx (.inr ⟨_,rfl,h'⟩) (.inr ⟨_,rfl,h⟩) r
theorem zkv {id:Nat} {b:Code} {P2:zaQ->zi->za->Prop} (e:P (.exit id)=λfr h=>Run T b fr h P2) (r:zeW C T b M L P2):zeW C T (.exit id) M L P:=λfr h s=>zpq (by rw [e]; exact r fr h s)
theorem zzu {b:Code} {P2:zaQ->zi->za->Prop} (e:Q=λfr h=>Run T b fr h P2) (r:zeW C T b M L P2):zm C T d ops [] M L Q:=zdD λfr h s=>by rw [e]; exact r fr h s
theorem zkw {b:Code} {P2:zaQ->zi->za->Prop} (e:P .normal=λfr h=>Run T b fr h P2) (r:zeW C T b M L P2):zeW C T .skip M L P:=λfr h s=>zpp (by rw [e]; exact r fr h s)
theorem zjN {b:Code} {l:Nat} {P2:zaQ->zi->za->Prop} (e:P .normal=λfr h=>Run T b fr h P2) (r:zeW C T b M L P2):zeW C T (.label l) M L P:=λfr h s=>zrK (by rw [e]; exact r fr h s)
abbrev gh (g:List zd) (i:Nat):zd:=g.getD i .undef
def zzv (T:Tab) (z:Store) (c:zd) (as:List TE) (rs:List RE):Prop:=
 ∃ g pre post,c=.func (.func g) pre post/\T.consts.get g=Oe/\∀ z1 h vs,z.le z1->z1.Sub h->h.wm<=h.next->zB z1 as vs ->
  zlc T g (pre++vs++post) h λr h'=>∃ us z',r=.ret (packed us)/\us.length=rs.length/\Quiet h h'/\z1.le z'/\z'.Sub h'/\(∀ b,b<h.next->z' b=z1 b)/\zB z' (tes rs us) us/\zgT ⟨z1,h,[]⟩ z' h' (owns rs us)
theorem zzv.mono {z z':Store} {c:zd} {as:List TE} {rs:List RE} (hz:z.le z') (f:zzv T z c as rs):zzv T z' c as rs:=
 let ⟨g,pre,post,h1,h2,h3⟩:=f; ⟨g,pre,post,h1,h2,λz1 h vs hl=>h3 z1 h vs (hz.trans hl)⟩
def rFn (T:Tab) (X Y:Type) (ins:X->List TE) (outs:Y->List RE):Rep (X->Option Y):=
 ⟨1,Oc,λz cs f=>∃ c,cs=[c]/\(c.one=Od/\c.isAgg=Oc)/\∀ x y,f x=Ob y->zzv T z c (ins x) (outs y),λ_ _ _ h=>by obtain ⟨v,h,_⟩:=h; rw [h]; rfl,
  λ_ _ _ _ e h=>let ⟨c,h1,h2,h3⟩:=h; ⟨c,h1,h2,λx y q=>(h3 x y q).mono e⟩,λ_=>rfl,λ_ _ _ h=>by obtain ⟨v,h,e,_⟩:=h; rw [h]; simp [e.1]⟩
theorem zBh {T:Tab} {X Y:Type} {ins:X->List TE} {outs:Y->List RE} {z:Store}:(rFn T X Y ins outs).rel z [.nfz] λ_=>Oe:=⟨_,rfl,⟨rfl,rfl⟩,λ_ _ h=>(nomatch h)⟩
theorem zBi {X Y:Type} {ins:X->List TE} {outs:Y->List RE} {v:zd} {f:X->Option Y} (q:TV (rFn T X Y ins outs) z v f):∀ x y,f x=Ob y->zzv T z v (ins x) (outs y):=by
 obtain ⟨h1,h2⟩:=q;obtain ⟨w,h3,h4,h5⟩:=h1;cases v<;>simp_all [zd.isAgg,zd.cells,rFn]
theorem ziZ {X Y:Type} {ins:X->List TE} {outs:Y->List RE} {c:Call} {p:Operand} {f:X->Option Y} {x:X} {y:Y} (hf:f x=Ob y) (hw:Want ops M Od o.guard) (ho:o.op=.call c) (hd:o.dst=Ob t) (hc:c.callee=.value p) (hx:Opd M p (.val (rFn T X Y ins outs) f)) (hvs:Opds M c.args.toList (ins x))
 (hq:RQ (outs y) L λes L'=>zm C T d ops rest ((t,zoK es)::M) L' Q):zm C T d ops (o::rest) M L Q:=by
 refine zkt hw hd hq λz fr h s=>?_;obtain ⟨g,pre,post,e1,e2,e3⟩:=zBi (hx.val s.fr) x y hf;refine ⟨.func (.func g) pre post,c.args.toList.map fr.op,by rw [ho]; simp only [aop,zc1,hc,e1],λh1 hn hg hwm=>?_⟩;have hsub:z.Sub h1:=λb y hb=>by rw [hg,hn]; exact s.sub b y hb
 refine zdf e2 ?_;refine (e3 z h1 _ (.refl _) hsub hwm (hvs.ok s.fr)).mono λr h' ⟨us,z',e1,hl,q,hz,hs,hold,hok,hown⟩=>⟨us,z',e1,hl,q,hz,hs, ?_,hok,hown⟩;rw [← hn]; exact hold
theorem zcu {es fs:List TE} {us vs:List zd} (h1:zB z es us) (h2:zB z fs vs):zB z (es++fs) (us++vs):=zes.2 ⟨us,vs,rfl,h1,h2⟩
theorem zeB {X Y:Type} (ins:X->List TE) (outs:Y->List RE) {f:X->Option Y} {g:FuncId} {first captured:Array Operand} {ps cs:List TE} (hF:∀ x y,f x=Ob y->Fun T g (ps++ins x++cs) (outs y)) (hcst:T.consts.get g=Oe) (hw:Want ops M Od o.guard) (ho:o.op=.makeFunc (.func g) first captured) (hd:o.dst=Ob t) (h1:Opds M first.toList ps) (h2:Opds M captured.toList cs)
 (r:zm C T d ops rest ((t,.val (rFn T X Y ins outs) f)::M) L Q):zm C T d ops (o::rest) M L Q:=by
 refine zau (by rw [ho]; rfl) hw hd (λz fr h s=>?_) r;refine ⟨.func (.func g) (first.toList.map fr.op) (captured.toList.map fr.op),by rw [ho]; rfl, ?_⟩;simp only [TE.ok];refine ⟨⟨_,rfl,⟨rfl,rfl⟩,λx y q=>⟨g,_,_,rfl,hcst,λz1 h' vs hl hs hwm hok=>?_⟩⟩,rfl⟩;exact hF x y q z1 h' _ hs hwm (zcu (zcu (zdB hl (h1.ok s.fr)) hok) (zdB hl (h2.ok s.fr)))
theorem zge {X Y:Type} {ins:X->List TE} {outs:Y->List RE} {f:X->Option Y} {g:FuncId} (hF:∀ x y,f x=Ob y->Fun T g (ins x) (outs y)) (hcst:T.consts.get g=Oe):∀ z,TV (rFn T X Y ins outs) z (.func (.func g) [] []) f:=λz=>
 ⟨⟨_,rfl,⟨rfl,rfl⟩,λx y q=>⟨g,[],[],rfl,hcst,λz1 h' vs hl hs hwm hok=>by rw [List.nil_append,List.append_nil]; exact hF x y q z1 h' _ hs hwm hok⟩⟩,rfl⟩
end
section
variable {C:Ctx} {T:Tab} {d:Option (List Nat)} {ops rest:List Oper} {M:Env} {L:Own} {Q:zi->za->Prop} {P:zaQ->zi->za->Prop} {o:Oper} {t:Nat} {z:Store} {fr:zi} {h:za}
theorem zarr {A:Type} {R:Rep A} {x:A} {n:Nat} {c zc:List zd} (h:∀ z,R.rel z c x) (hz:copies n c=zc):∀ z,(zjJ n R).rel z zc (List.replicate n x):=by
 intro z;subst hz;have hl:=R.len _ _ _ (h z);have hp:∀ i y,(List.replicate n x)[i]?=Ob y->R.rel z (((copies n c).drop (i*R.sz)).take R.sz) y:=by
  intro i y hi;have h1:=(List.getElem?_eq_some_iff.1 hi).1;rw [List.length_replicate] at h1;rw [List.getElem?_replicate,if_pos h1] at hi;cases hi;rw [← hl,zg5 _ h1]; exact h z
 refine ⟨List.length_replicate,by rw [zeJ,hl], ?_,hp⟩;rcases Nat.eq_zero_or_pos R.sz with q | q
 . have:copies n c=[]:=List.length_eq_zero_iff.1 (by rw [zeJ,hl,q,Nat.mul_zero]);rw [this]; rfl
 . exact ziY q (by rw [zeJ,hl,List.length_replicate]) hp
theorem zw1 {A:Type} {R:Rep A} {x y:Operand} {xs:List A} {at_ et:TypeId} {n:Nat} {k:IntKind} {i:Int} {a:A} (har:Ar1 T at_ et n R) (hi:idx xs i=Ob a) (hw:Want ops M Od o.guard) (ho:o.op=.index at_ x y) (hd:o.dst=Ob t)
    (hx:Opd M x (.val (zjJ n R) xs)) (hy:Opd M y (.val (zh k) i)) (r:zm C T d ops rest ((t,.val R a)::M) L Q):zm C T d ops (o::rest) M L Q:=by
  refine zau (by rw [ho]; rfl) hw hd (λz fr h s=>?_) r;obtain ⟨h0,h1,h2,h3⟩:=zdi hi;have hv:=hx.val s.fr;have hc:=hv.agg;cases hq:fr.op x with
  | agg cs=>
    rw [hq] at hv;obtain ⟨e1,e2,e3,e4⟩:=hv.rel;simp only [zd.cells] at e2 e3 e4;have hb:=zer (off:=0) (i:=i.toNat) (R:=R) (cells:=cs) (by rw [e1]; omega) h3;obtain ⟨u,h8,h9⟩:=zfi (cells:=cs) (off:=i.toNat*R.sz) har.sz har.agg J (e4 _ _ h3);refine ⟨u, ?_,by simp only [TE.ok]; exact h9⟩;rw [ho];simp only [aop,hq,hy.int s.fr,aindex,har.und,har.sz];rw [if_pos ⟨h0,by omega⟩,h8];rfl
  | _=>rw [hq] at hc; cases hc
theorem zmD {A:Type} {R:Rep A} {at_ et:TypeId} {n:Nat} {zc:List zd} {parts:Array (Nat×Operand)} {as:List A} (har:Ar1 T at_ et n R) (hz:zeS T at_=Ob (.agg zc)) (hzl:zc.length=n*R.sz) (hw:Want ops M Od o.guard) (ho:o.op=.build at_ parts) (hd:o.dst=Ob t) (he:Elts M R 0 parts.toList as) (hn:as.length=n)
 (r:zm C T d ops rest ((t,.val (zjJ n R) as)::M) L Q):zm C T d ops (o::rest) M L Q:=by
 refine zau (by rw [ho]; rfl) hw hd (λz fr h s=>?_) r;obtain ⟨cells,h3,h4,_,h5⟩:=zkq he s.fr har.pos zc (by rw [hzl,← hn]; simp);refine ⟨.agg cells, ?_, ?_⟩
 . rw [ho];simp only [aop,abuild,hz,har.und,har.sz,zd.cells,h3,z6,Option.map]
 . simp only [TE.ok];have hp:∀ i x,as[i]?=Ob x->R.rel z ((cells.drop (i*R.sz)).take R.sz) x:=λi x hx=>by have:=h5 i x hx; rwa [Nat.zero_add] at this
   exact ⟨⟨hn,by simp only [zd.cells]; rw [h4,hzl],ziY (l:=cells) har.pos (by rw [h4,hzl,hn]) hp,hp⟩,rfl⟩
theorem zuB {A:Type} {R:Rep A} {at_ et:TypeId} {n:Nat} {x:A} {zc:List zd} (har:Ar1 T at_ et n R) (hz:zeS T at_=Ob (.agg zc)) (hx:∀ z,(zjJ n R).rel z zc (List.replicate n x)) (hn:n<=maxLen) (hw:Want ops M Od o.guard) (ho:o.op=.alloc at_) (hd:o.dst=Ob t)
 (r:∀ b,zm C T d ops rest ((t,.raw (.ptr b 0))::M) ((.slice b 0 n R.sz (Ob n),.row R (List.replicate n x))::L) Q):zm C T d ops (o::rest) M L Q:=by
 refine zfh hw (nf (by rw [ho]; rfl)) λz fr h s=>?_;have ha:aop T fr.op h o.op=Ob (.val (.ptr h.next 0) (h.push (.arr zc Oc))):=by rw [ho]; simp only [aop,zf1,hz,zd.cells]
 refine ⟨_,_,z,_,_,ha,nfo (by rw [ho]; rfl),.refl _, ?_,r h.next⟩;rw [hd,zaU];refine (s.pushOwn (v:=.slice h.next 0 n R.sz (Ob n)) (ob:=.row R (List.replicate n x)) _ rfl ?_).set (by simp only [TE.ok]);obtain ⟨e1,e2,_,e4⟩:=hx z;refine ⟨by rw [List.length_replicate]; exact hn,.inr ⟨h.next,0,Ob n,zc,by rw [List.length_replicate],by rw [za.get_push,if_pos rfl],by rw [List.length_replicate,e2]; omega,λc hc=>by cases hc; rw [List.length_replicate,e2]; omega,λi y hy=>by rw [Nat.zero_add]; exact e4 i y hy⟩⟩
theorem zzw {A:Type} {R:Rep A} {x y:Operand} {xs:List A} {at_ et:TypeId} {n:Nat} {kk:IntKind} {i:Int} {a:A} {b:Nat} (k:Nat) (har:Ar1 T at_ et n R) (hk:L[k]?=Ob (.slice b 0 n R.sz (Ob n),.row R xs)) (hi:idx xs i=Ob a) (hw:Want ops M Od o.guard) (ho:o.op=.indexAddr at_ x y) (hd:o.dst=Ob t)
 (hx:Opd M x (.raw (.ptr b 0))) (hy:Opd M y (.val (zh kk) i)) (r:zm C T d ops rest ((t,.elt (.slice b 0 n R.sz (Ob n)) i.toNat 0)::M) L Q):zm C T d ops (o::rest) M L Q:=by
 refine zau (by rw [ho]; rfl) hw hd (λz fr h s=>?_) r;obtain ⟨h0,h1,h2,h3⟩:=zdi hi;have hr:=s.own.ok _ (List.mem_of_getElem? hk);simp only [Obj.ok] at hr;have hlen:xs.length=n:=by
  rcases hr.2 with ⟨q,_⟩ | ⟨b',off,cap,cells,q,_⟩
  . cases q
  . cases q; rfl
 refine ⟨.ptr b (0+i.toNat*R.sz), ?_,by simp only [TE.ok]; exact ⟨b,0,n,R.sz,Ob n,rfl,by simp⟩⟩;rw [ho];simp only [aop,hy.int s.fr,hx.raw s.fr,zdy,har.und,har.sz];rw [if_pos (by exact ⟨h0,by omega⟩)];rfl
theorem zw2 {A:Type} {R:Rep A} {x:Operand} {xs:List A} {at_ et:TypeId} {n:Nat} {b:Nat} (k:Nat) (hls:Listed d ops rest) (har:Ar1 T at_ et n R) (hk:L[k]?=Ob (.slice b 0 n R.sz (Ob n),.row R xs)) (hw:Want ops M Od o.guard) (ho:o.op=.load at_ x) (hd:o.dst=Ob t)
 (hx:Opd M x (.raw (.ptr b 0))) (r:zm C T d ops rest ((t,.val (zjJ n R) xs)::M) L Q):zm C T d ops (o::rest) M L Q:=by
 refine zfD (.l hls (by rw [ho]; rfl) (by rw [ho]; rfl)) (λz fr h s=>by
  rw [show foot fr.op o=⟨zS (fr.op x),Oc,[],Oc⟩ by unfold foot; rw [ho]];exact ⟨λb' hb=>zim s hk rfl b' (by simpa [zS,hx.raw s.fr] using hb),λb hb=>(nomatch hb)⟩) hw hd (λz fr h s=>?_) r
 have hr:=s.own.ok _ (List.mem_of_getElem? hk);simp only [Obj.ok] at hr;rcases hr.2 with ⟨q,_⟩ | ⟨b',off,cap,cells,q,g1,g2,g3,g4⟩
 . cases q
 . cases q;have hcl:0+xs.length*R.sz<=cells.length:=g2;refine ⟨.agg ((cells.drop 0).take (xs.length*R.sz)), ?_, ?_⟩
   . rw [ho];simp only [aop,hx.raw s.fr,aload,g1,Go.Ai.apart,har.isagg,har.whole];rw [if_pos J];rfl
   . simp only [TE.ok];have hp:∀ i x,xs[i]?=Ob x->R.rel z ((((cells.drop 0).take (xs.length*R.sz)).drop (i*R.sz)).take R.sz) x:=by
      intro i x hi;have h6:=zer (off:=0) (i:=i) (R:=R) (cells:=cells.take (xs.length*R.sz)) Oj hi;rw [List.drop_zero,List.drop_take,List.take_take,Nat.min_eq_left]
      . have:=g4 i x hi; rwa [Nat.zero_add] at this
      . simp at h6; omega
     have hl:((cells.drop 0).take (xs.length*R.sz)).length=xs.length*R.sz:=by simp; omega
     exact ⟨⟨rfl,hl,ziY har.pos hl hp,hp⟩,rfl⟩
theorem zAJ {A:Type} {R:Rep A} {x y:Operand} {xs ys:List A} {at_ et:TypeId} {n:Nat} {b:Nat} (k:Nat) (har:Ar1 T at_ et n R) (hk:L[k]?=Ob (.slice b 0 n R.sz (Ob n),.row R xs)) (hw:Want ops M Od o.guard) (ho:o.op=.store at_ x y) (hd:o.dst=Oe)
 (hx:Opd M x (.raw (.ptr b 0))) (hy:Opd M y (.val (zjJ n R) ys)) {L':Own} (hL:zfE L k (.slice b 0 n R.sz (Ob n),.row R ys)=Ob L') (r:zm C T d ops rest M L' Q):zm C T d ops (o::rest) M L Q:=by
 refine zjp (.w (by rw [ho]; rfl) (λt a q=>by rw [ho] at q; cases q) (by rw [ho]; rfl) (λq=>by rw [ho] at q; cases q)) (λz fr h s=>by
  rw [show foot fr.op o=⟨[],Oc,zS (fr.op x),Oc⟩ by unfold foot; rw [ho]];exact ⟨λb hb=>(nomatch hb),λb' hb=>zfj s hk rfl b' (by simpa [zS,hx.raw s.fr] using hb)⟩) hw hd (λz fr h s=>?_) r
 have hr:=s.own.ok _ (List.mem_of_getElem? hk);simp only [Obj.ok] at hr;have hv:=hy.val s.fr;obtain ⟨e1,e2,e3,e4⟩:=hv.rel;rcases hr.2 with ⟨q,_⟩ | ⟨b',off,cap,cells,q,g1,g2,g3,g4⟩
 . cases q
 . cases q;have hin:0+(fr.op y).cells.length<=cells.length:=J
   refine ⟨.tuple [],h.set b (.arr (splice cells 0 (fr.op y).cells) Oc), ?_,s.upd hk rfl rfl _ ?_ hL⟩
   . rw [ho];simp only [aop,hx.raw s.fr,astore,g1,har.whole];rw [if_pos (by exact ⟨e2,by omega,e3⟩)];rfl
   . simp only [Obj.ok];refine ⟨by rw [e1]; exact hr.1,.inr ⟨b,0,Ob xs.length,_,by rw [e1],by rw [za.get_set,if_pos rfl],by rw [zdE hin,e1]; exact g2,λc hc=>by rw [zdE hin,e1]; exact g3 c hc,λi x hi=>?_⟩⟩;have h6:=zer (off:=0) (i:=i) (R:=R) (cells:=(fr.op y).cells) (by rw [e1]; omega) hi;have:((splice cells 0 (fr.op y).cells).drop (0+i*R.sz)).take R.sz=((fr.op y).cells.drop (i*R.sz)).take R.sz:=by
      apply List.ext_getElem?;intro j;unfold splice;simp only [List.getElem?_take,List.getElem?_drop,List.getElem?_append,List.length_append,List.length_take,List.take_zero,List.nil_append,Nat.zero_add];repeat' split
      all_goals (try omega)
      all_goals rfl
     rw [this]; exact e4 i x hi
theorem zgf {A:Type} {R:Rep A} {x y:Operand} {ys:List A} {es:List TE} {at_ et:TypeId} {n:Nat} {b:Nat} (k:Nat) (har:Ar1 T at_ et n R) (hk:L[k]?=Ob (.ptr b 0,.box es)) (hn:es.length=n*R.sz) (hm:n<=maxLen) (hw:Want ops M Od o.guard) (ho:o.op=.store at_ x y) (hd:o.dst=Oe)
 (hx:Opd M x (.raw (.ptr b 0))) (hy:Opd M y (.val (zjJ n R) ys)) {L':Own} (hL:zfE L k (.slice b 0 n R.sz (Ob n),.row R ys)=Ob L') (r:zm C T d ops rest M L' Q):zm C T d ops (o::rest) M L Q:=by
 refine zjp (.w (by rw [ho]; rfl) (λt a q=>by rw [ho] at q; cases q) (by rw [ho]; rfl) (λq=>by rw [ho] at q; cases q)) (λz fr h s=>by
  rw [show foot fr.op o=⟨[],Oc,zS (fr.op x),Oc⟩ by unfold foot; rw [ho]];exact ⟨λb hb=>(nomatch hb),λb' hb=>zfj s hk rfl b' (by simpa [zS,hx.raw s.fr] using hb)⟩) hw hd (λz fr h s=>?_) r
 have hob:=s.own.ok _ (List.mem_of_getElem? hk);simp only [Obj.ok] at hob;obtain ⟨b',cells,q',g1,g2,g3⟩:=hob;cases q';have hv:=hy.val s.fr;obtain ⟨e1,e2,e3,e4⟩:=hv.rel;have hlc:=zbX g2;have e:splice cells 0 (fr.op y).cells=(fr.op y).cells:=by
  unfold splice;rw [List.take_zero,Nat.zero_add,List.drop_eq_nil_of_le J]; simp
 refine ⟨.tuple [],h.set b (.arr (fr.op y).cells Oc), ?_,s.upd hk rfl rfl _ ?_ hL⟩
 . rw [ho];simp only [aop,hx.raw s.fr,astore,g1,har.whole];rw [if_pos (by exact ⟨e2,by omega,e3⟩),e];rfl
 . simp only [Obj.ok];exact ⟨by rw [e1]; exact hm,.inr ⟨b,0,Ob n,_,by rw [e1],by rw [za.get_set,if_pos rfl],by rw [e1]; omega,λc hc=>by cases hc; rw [e1]; omega,λi x hi=>by rw [Nat.zero_add]; exact e4 i x hi⟩⟩
theorem zw3 {A:Type} {R:Rep A} {u u':TypeId} {et:TypeId} {x:Operand} {xs:List A} (hsl:Sl T u et R) (hw:Want ops M Od o.guard) (ho:o.op=.binOp .eql u x (.const (.slice Oe 0 0)) u') (hd:o.dst=Ob t) (hx:Opd M x (.val (zb R) xs))
 (r1:xs=[]->zm C T d ops rest ((t,.val zw Od)::M) L Q) (r0:zm C T d ops rest ((t,.val zw Oc)::M) L Q):zm C T d ops (o::rest) M L Q:=by
 have e0:∀ fr:zi,fr.op (.const (.slice Oe 0 0))=.nsz:=λ_=>rfl;refine zfh hw (nf (by rw [ho]; rfl)) λz fr h s=>?_;have hr:=zfX (hx.val s.fr);rcases hr.2 with ⟨q,e⟩ | ⟨b,off,cap,q,e,_⟩ | ⟨b,off,cap,cells,ro,q,_⟩
 . exact ⟨.bool Od,h,z,_,_,by rw [ho]; simp [aop,abin,q,e0,aguard,aeq,hsl.und,z6],nfo (by rw [ho]; rfl),.refl _,by rw [hd,zaU]; exact s.set (e:=.val zw Od) (by simp only [TE.ok]; exact zcQ),r1 e⟩
 . exact ⟨.bool Oc,h,z,_,_,by rw [ho]; simp [aop,abin,q,e0,aguard,aeq,hsl.und,z6],nfo (by rw [ho]; rfl),.refl _,by rw [hd,zaU]; exact s.set (e:=.val zw Oc) (by simp only [TE.ok]; exact zcQ),r0⟩
 . exact ⟨.bool Oc,h,z,_,_,by rw [ho]; simp [aop,abin,q,e0,aguard,aeq,hsl.und,z6],nfo (by rw [ho]; rfl),.refl _,by rw [hd,zaU]; exact s.set (e:=.val zw Oc) (by simp only [TE.ok]; exact zcQ),r0⟩
inductive ztO (T:Tab):{A:Type}->Nat->Rep A->(A->A->Bool)->List Field->Nat->Prop where
 | n {n off:Nat}:ztO T n zcE (fun _ _=>Od) [] off
 | i {n : Nat} {B : Type} {S : Rep B} {k : IntKind} {q : B → B → Bool} {f : Field} {fs : List Field} {off : Nat} (hn : f.name ≠ "_") (hu : T.und f.type = some (.int k)) (hf : f.offset = off) (r : ztO T n S q fs (off + 1)) : ztO T n (zC (zh k) S) (fun x y => x.1 == y.1 && q x.2 y.2) (f :: fs) off
 | b {n : Nat} {B : Type} {S : Rep B} {q : B → B → Bool} {f : Field} {fs : List Field} {off : Nat} (hn : f.name ≠ "_") (hu : T.und f.type = some .bool) (hf : f.offset = off) (r : ztO T n S q fs (off + 1)) : ztO T n (zC zw S) (fun x y => x.1 == y.1 && q x.2 y.2) (f :: fs) off
 | s {n : Nat} {A B : Type} {R : Rep A} {S : Rep B} {q' : A → A → Bool} {q : B → B → Bool} {f : Field} {fs : List Field} {gs : Array Field} {off : Nat} (hn : f.name ≠ "_") (hu : T.und f.type = some (.struct gs)) (hst : ((T.types.get f.type).map (·.stood)).getD true = false) (hag : zeb T f.type = some true) (hsz : szT T f.type = some R.sz) (hp : 0 < R.sz) (hf : f.offset = off) (r' : ztO T n R q' gs.toList 0) (r : ztO T (n + 1) S q fs (off + R.sz)) : ztO T (n + 1) (zC R S) (fun x y => q' x.1 y.1 && q x.2 y.2) (f :: fs) off
theorem zr6 {t:TypeId} {k:IntKind} (h:T.und t=Ob (.int k)):zeb T t=Ob Oc:=by simp only [zeb,h]
theorem zqJ {t:TypeId} (h:T.und t=Ob .bool):zeb T t=Ob Oc:=by simp only [zeb,h]
theorem zw4 {dp n:Nat} {A:Type} {R:Rep A} {q:A->A->Bool} {fs:List Field} {off:Nat} (e:ztO T n R q fs off) (hdp:n<=dp):∀ (cx cy:List zd) (x y:A),R.rel z (cx.drop off) x->R.rel z (cy.drop off) y ->
    zdr (λf=>match Go.Ai.apart T f.type cx f.offset,Go.Ai.apart T f.type cy f.offset with
        | some u,Ob v=>aeq T (dp+1) f.type u v
        | _,_=>Oe) fs=Ob (q x y):=by
  induction e generalizing dp with
  | n=>intros; rfl
  | @i n B S k q f fs off hn hu hf _ ih=>
    intro cx cy x y hx hy;subst hf;obtain ⟨c1,c2,e1,h1,h2⟩:=hx;obtain ⟨d1,d2,e2,g1,g2⟩:=hy;rw [h1.1] at e1;rw [g1.1] at e2;have hcx:cx[f.offset]?=Ob (.int k x.1):=by have:=congrArg (λl=>l[0]?) e1; simpa using this
    have hcy:cy[f.offset]?=Ob (.int k y.1):=by have:=congrArg (λl=>l[0]?) e2; simpa using this
    have ax:cx.drop (f.offset+1)=c2:=by have:=congrArg List.tail e1; simpa using this
    have ay:cy.drop (f.offset+1)=d2:=by have:=congrArg List.tail e2; simpa using this
    have:=ih hdp cx cy x.2 y.2 (by rw [ax]; exact h2) (by rw [ay]; exact g2);have hag:=zr6 hu;simp only [zdr,if_pos hn,Go.Ai.apart,hag,hcx,hcy,aeq,hu,if_pos rfl] at this ⊢;cases hb:(x.1==y.1) with
    | true=>simp only [Bool.true_and]; exact this
    | false=>rfl
  | @b n B S q f fs off hn hu hf _ ih=>
    intro cx cy x y hx hy;subst hf;obtain ⟨c1,c2,e1,h1,h2⟩:=hx;obtain ⟨d1,d2,e2,g1,g2⟩:=hy;have h1:c1=[.bool x.1]:=h1;have g1:d1=[.bool y.1]:=g1;rw [h1] at e1;rw [g1] at e2;have hcx:cx[f.offset]?=Ob (.bool x.1):=by have:=congrArg (λl=>l[0]?) e1; simpa using this
    have hcy:cy[f.offset]?=Ob (.bool y.1):=by have:=congrArg (λl=>l[0]?) e2; simpa using this
    have ax:cx.drop (f.offset+1)=c2:=by have:=congrArg List.tail e1; simpa using this
    have ay:cy.drop (f.offset+1)=d2:=by have:=congrArg List.tail e2; simpa using this
    have:=ih hdp cx cy x.2 y.2 (by rw [ax]; exact h2) (by rw [ay]; exact g2);have hag:=zqJ hu;simp only [zdr,if_pos hn,Go.Ai.apart,hag,hcx,hcy,aeq,hu] at this ⊢;cases hb:(x.1==y.1) with
    | true=>simp only [Bool.true_and]; exact this
    | false=>rfl
  | @s n A B R S q' q f fs gs off hn hu hst hag hsz hp hf _ _ ih' ih=>
    intro cx cy x y hx hy;subst hf;obtain ⟨c1,c2,e1,h1,h2⟩:=hx;obtain ⟨d1,d2,e2,g1,g2⟩:=hy;obtain ⟨dp,rfl⟩:∃ d,dp=d+1:=⟨dp-1,by omega⟩;have lc:=R.len _ _ _ h1;have ld:=R.len _ _ _ g1;have tx:(cx.drop f.offset).take R.sz=c1:=by rw [e1,← lc]; simp
    have ty:(cy.drop f.offset).take R.sz=d1:=by rw [e2,← ld]; simp
    have ax:cx.drop (f.offset+R.sz)=c2:=by rw [← List.drop_drop,e1,← lc]; simp
    have ay:cy.drop (f.offset+R.sz)=d2:=by rw [← List.drop_drop,e2,← ld]; simp
    have lx:f.offset+R.sz<=cx.length:=by
      have:=congrArg List.length e1;rw [List.length_drop,List.length_append] at this;omega
    have ly:f.offset+R.sz<=cy.length:=by
      have:=congrArg List.length e2;rw [List.length_drop,List.length_append] at this;omega
    have i1:=ih' (dp:=dp) J c1 d1 x.1 y.1 (by simpa using h1) (by simpa using g1);have i2:=ih hdp cx cy x.2 y.2 (by rw [ax]; exact h2) (by rw [ay]; exact g2);have px:Go.Ai.apart T f.type cx f.offset=Ob (.agg c1):=by
      simp only [Go.Ai.apart,hag,hsz]; rw [if_pos lx,tx]
    have py:Go.Ai.apart T f.type cy f.offset=Ob (.agg d1):=by
      simp only [Go.Ai.apart,hag,hsz]; rw [if_pos ly,ty]
    have ae:aeq T (dp+1+1) f.type (.agg c1) (.agg d1)=Ob (q' x.1 y.1):=by
      simp only [aeq,hu,hst];exact i1
    simp only [zdr,if_pos hn,px,py,ae];cases hb:q' x.1 y.1 with
    | true=>simp only [Bool.true_and]; exact i2
    | false=>rfl
structure SEq (T:Tab) (t:TypeId) {A:Type} (R:Rep A) (q:A->A->Bool):Prop where
 ok:∃ fs,T.und t=Ob (.struct fs)/\ztO T 4 R q fs.toList 0
 stood:((T.types.get t).map (·.stood)).getD Od=Oc
 eqg:((T.types.get t).map (·.eqg)).getD Od=Oc
theorem zr7 {A:Type} {R:Rep A} {q:A->A->Bool} {u:TypeId} {v w:zd} {a b:A} (h:SEq T u R q) (hR:R.agg=Od) (hv:TV R z v a) (hw:TV R z w b):abin T .eql u v w=Ob (.bool (q a b))/\abin T .neq u v w=Ob (.bool (!q a b)):=by
 obtain ⟨fs,h1,h2⟩:=h.ok;have e1:=hv.agg;have e2:=hw.agg;rw [hR] at e1 e2;cases v with
 | agg cx=>
  cases w with
  | agg cy=>
   have hr1:=hv.rel;have hr2:=hw.rel;simp only [zd.cells] at hr1 hr2;have key:=zw4 (dp:=6) h2 J cx cy a b (by simpa using hr1) (by simpa using hr2);have ae:aeq T 8 u (.agg cx) (.agg cy)=Ob (q a b):=by
    simp only [aeq,h1,h.stood];exact key
   constructor
   ·simp only [abin,aguard,h.eqg,ae]; rfl
   ·simp only [abin,aguard,h.eqg,ae]; rfl
  | _=>cases e2
 | _=>cases e1
theorem zBj {A:Type} {R:Rep A} {q:A->A->Bool} {u u':TypeId} {x y:Operand} {a b:A} (hs:SEq T u R q) (hR:R.agg=Od) (hw:Want ops M Od o.guard) (ho:o.op=.binOp .eql u x y u') (hd:o.dst=Ob t) (hx:Opd M x (.val R a)) (hy:Opd M y (.val R b))
 (r:zm C T d ops rest ((t,.val zw (q a b))::M) L Q):zm C T d ops (o::rest) M L Q:=by
 refine zau (by rw [ho]; rfl) hw hd (λz fr h s=>⟨.bool (q a b), ?_,by simp only [TE.ok]; exact zcQ⟩) r;rw [ho];simp only [aop,(zr7 hs hR (hx.val s.fr) (hy.val s.fr)).1,z6,Option.map]
theorem zBk {A:Type} {R:Rep A} {q:A->A->Bool} {u u':TypeId} {x y:Operand} {a b:A} (hs:SEq T u R q) (hR:R.agg=Od) (hw:Want ops M Od o.guard) (ho:o.op=.binOp .neq u x y u') (hd:o.dst=Ob t) (hx:Opd M x (.val R a)) (hy:Opd M y (.val R b))
 (r:zm C T d ops rest ((t,.val zw (!q a b))::M) L Q):zm C T d ops (o::rest) M L Q:=by
 refine zau (by rw [ho]; rfl) hw hd (λz fr h s=>⟨.bool (!q a b), ?_,by simp only [TE.ok]; exact zcQ⟩) r;rw [ho];simp only [aop,(zr7 hs hR (hx.val s.fr) (hy.val s.fr)).2,z6,Option.map]
theorem zbv {A:Type} {R:Rep A} {xs:List A} {et:TypeId} {x y:Operand} {b q:Nat} {v:zd} {es:List TE} (k m:Nat) (hsz:szT T et=Ob 1) (hk:L[k]?=Ob (.ptr b 0,.box es)) (hm:L[m]?=Ob (v,.row R xs)) (hq:q<es.length) (hw:Want ops M Od o.guard) (ho:o.op=.store et x y) (hd:o.dst=Oe) (hx:Opd M x (.raw (.ptr b q))) (hy:Opd M y (.raw v))
 {L':Own} (hL:zfE L k (.ptr b 0,.box (es.set q (.raw v)))=Ob L') (r:zm C T d ops rest M L' Q):zm C T d ops (o::rest) M L Q:=by
 refine zjp (.w (by rw [ho]; rfl) (λt a q=>by rw [ho] at q; cases q) (by rw [ho]; rfl) (λq=>by rw [ho] at q; cases q)) (λz fr h s=>by
  rw [show foot fr.op o=⟨[],Oc,zS (fr.op x),Oc⟩ by unfold foot; rw [ho]];exact ⟨λb hb=>(nomatch hb),λb' hb=>zfj s hk rfl b' (by simpa [zS,hx.raw s.fr] using hb)⟩) hw hd (λz fr h s=>?_) r
 have hv1:v.one=Od:=by
  have hr:=s.own.ok _ (List.mem_of_getElem? hm);simp only [Obj.ok] at hr;rcases hr.2 with ⟨q,_⟩ | ⟨_,_,_,_,q,_⟩<;>rw [q]<;>rfl
 have hob:=s.own.ok _ (List.mem_of_getElem? hk);simp only [Obj.ok] at hob;obtain ⟨b',cells,q',h2,h3,h4⟩:=hob;cases q';have hv:=hy.raw s.fr;have hcs:v.cells=[v]:=by cases v<;>simp_all [zd.cells,zd.one]
 have hlt:q<cells.length:=by rw [zbX h3]; exact hq
 refine ⟨.tuple [],h.set b (.arr (cells.set q v) Oc), ?_,s.upd hk rfl rfl _ ?_ hL⟩
 . rw [ho];simp only [aop,hx.raw s.fr,hv,astore,h2,hsz,hcs,List.length_singleton];rw [if_pos (by exact ⟨by trivial,by omega,by simp [hv1]⟩),zlN hlt];rfl
 . refine ⟨b,_,rfl,by rw [za.get_set,if_pos rfl],zg6 h3 (by simp only [TE.ok]), ?_⟩;rw [List.all_eq_true] at h4 ⊢;intro c hc;rcases List.mem_or_eq_of_mem_set hc with q | rfl
   . exact h4 c q
   . exact hv1
theorem zcS {A:Type} {R:Rep A} {xs:List A} {v:zd} {b q:Nat} {es:List TE} (k m:Nat) (ts:List Nat) {L' L'':Own} (hk:L[k]?=Ob (v,.row R xs)) (hL:zcR L k=Ob L') (hm:L'[m]?=Ob (.ptr b 0,.box es)) (hq:es[q]?=Ob (.raw v)) (hL':zfE L' m (.ptr b 0,.box (es.set q (.val (zb R) xs)))=Ob L'') (hts:zir M v ts) :
    ∀ z fr h,StZ C M L z fr h->∃ z',z.le z'/\StZ C (zf2 ts (.val (zb R) xs) M) L'' z' fr h:=by
  intro z fr h s;obtain ⟨z',hz,s',hr⟩:=s.freeze hk hL;have hval:TE.ok z' (.val (zb R) xs) v:=by simp only [TE.ok]; exact zbU hr
  have hob:=s'.own.ok _ (List.mem_of_getElem? hm);simp only [Obj.ok] at hob;obtain ⟨b',cells,q',g1,g2,g3⟩:=hob;cases q';obtain ⟨c,hc1,hc2⟩:=zjK g2 hq;simp only [TE.ok] at hc2;subst hc2;have hset:cells.set q c=cells:=by
    apply List.ext_getElem?;intro i;rw [List.getElem?_set];split
    · rename_i e; subst e;rw [if_pos (List.getElem?_eq_some_iff.1 hc1).1,hc1]
    · rfl
  have hobj:(Obj.box (es.set q (.val (zb R) xs))).ok z' h (.ptr b 0):=by
    refine ⟨b,cells,rfl,g1, ?_,g3⟩;rw [← hset]; exact zg6 g2 hval
  obtain ⟨rfl,hlt⟩:=zin hL';have hmem:∀ p∈L'.set m (.ptr b 0,.box (es.set q (.val (zb R) xs))),p=(.ptr b 0,.box (es.set q (.val (zb R) xs)))\/p∈L':=by
    intro p hp;rcases List.mem_or_eq_of_mem_set hp with e | e
    · exact .inr e
    · exact .inl e
  have hb0:blks (L'.set m (.ptr b 0,.box (es.set q (.val (zb R) xs))))=blks L':=by
    have key:∀ (L:Own) (m:Nat),L[m]?=Ob (.ptr b 0,.box es)->blks (L.set m (.ptr b 0,.box (es.set q (.val (zb R) xs))))=blks L:=by
      intro L;induction L with
      | nil=>intro m h; simp at h
      | cons p L ih=>
        intro m h;cases m with
        | zero=>simp at h; subst h; rw [List.set_cons_zero,zR,zR]; rfl
        | succ m=>rw [List.set_cons_succ,zR,zR,ih m (by simpa using h)]
    exact key L' m hm
  refine ⟨z',hz,{ s' with fr:=zeI hval hts s'.fr,own:=⟨λp hp=>?_,λp hp=>?_,by rw [hb0]; exact s'.own.nodup⟩ }⟩
  · rcases hmem p hp with rfl | hp
    · exact hobj
    · exact s'.own.ok p hp
  · rcases hmem p hp with rfl | hp
    · intro c' hc';exact s'.own.out _ (List.mem_of_getElem? hm) c' (by simpa [zeP,zhm] using hc')
    · exact s'.own.out p hp
end
def zfL (T:Tab) (g:FuncId) (as:List TE) (L0:Own) (rs:List RE) (L1:List zd->Own):Prop:=
 ∀ z h vs,z.Sub h->h.wm<=h.next->zB z as vs->zgT ⟨z,h,blks L0⟩ z h L0->zlc T g vs h λr h'=>∃ us z' γ,r=.ret (packed us)/\us.length=rs.length/\Chg ⟨z,h,blks L0⟩ h'/\z.le z'/\z'.Sub h'/\(∀ b,b<h.next->b∉blks L0->z' b=z b)/\zB z' (tes rs us) us/\zgT ⟨z,h,blks L0⟩ z' h' (owns rs us++L1 γ)
section
variable {C:Ctx} {T:Tab} {d:Option (List Nat)} {ops rest:List Oper} {M:Env} {L:Own} {Q:zi->za->Prop} {P:zaQ->zi->za->Prop} {o:Oper} {t:Nat} {z:Store} {fr:zi} {h:za}
theorem zkx {ks js:List Nat} (hn:(ks++js).Nodup) (hb:(blks L).Nodup) {p:zd×Obj} {b:Nat} (hp:p∈picks L js) (h1:b∈zeP p):b∉blks (picks L ks):=by
 intro q;obtain ⟨p',hp',h2⟩:=zbm.1 q;obtain ⟨i,i1,i2⟩:=zdQ hp;obtain ⟨j,j1,j2⟩:=zdQ hp';have:=zdC hb i2 j2 h1 h2;subst this;exact (List.nodup_append.1 hn).2.2 i j1 i i1 rfl
theorem zbw {ks:List Nat} {p:zd×Obj} (hp:p∈picks L ks):p∈L:=by
 obtain ⟨i,_,h2⟩:=zdQ hp;exact List.mem_of_getElem? h2
theorem StZ.afterM (s:StZ C M L z fr h) {ks js:List Nat} (hn:(ks++js).Nodup) {h':za} {z':Store} {O:Own} (q:Chg ⟨z,h,blks (picks L ks)⟩ h') (hz:z.le z') (hs:z'.Sub h') (hold:∀ b,b<h.next->b∉blks (picks L ks)->z' b=z b) (ho:zgT ⟨z,h,blks (picks L ks)⟩ z' h' O):StZ C M (O++picks L js) z' fr h':=by
 have inn:∀ b,b∈blks (picks L ks)->b<h.next/\(C.h0.next<=b\/b∈C.B0):=λb hb=>by
  obtain ⟨p,hp,h1⟩:=zbm.1 hb;obtain ⟨_,o2,o3⟩:=s.own.out p (zbw hp) b h1;exact ⟨o2,o3⟩
 have notin:∀ b,b<C.h0.next->b∉C.B0->b∉blks (picks L ks):=λb hb hB hq=>by
  rcases (inn b hq).2 with q1 | q1
  . omega
  . exact hB q1
 have qn:h.next<=h'.next:=q.next;have sn:=s.chg.next;refine { zle:=s.zle.trans hz,sub:=hs,old:=λb hb hB=>?_,fr:=s.fr.mono hz,own:=⟨?_, ?_, ?_⟩,chg:=⟨Nat.le_trans sn qn,λb hb hB=>?_,λm m1 m2 m3=>?_,q.ok⟩ }
 . rw [hold b J (notin b hb hB)]; exact s.old b hb hB
 . intro p hp;rcases List.mem_append.1 hp with hp | hp
   . exact ho.ok p hp
   . exact Obj.ok_mono hz (λb hb=>q.same b (s.own.out p (zbw hp) b hb).2.1 (zkx hn s.own.nodup hp hb)) (s.own.ok p (zbw hp))
 . intro p hp b hb;rcases List.mem_append.1 hp with hp | hp
   . obtain ⟨o1,o2,o3⟩:=ho.out p hp b hb;refine ⟨o1,o2, ?_⟩;rcases o3 with q1 | q1
     . exact .inl (Nat.le_trans sn q1)
     . exact (inn b q1).2
   . obtain ⟨o1,o2,o3⟩:=s.own.out p (zbw hp) b hb;exact ⟨by rw [hold b o2 (zkx hn s.own.nodup hp hb)]; exact o1,Nat.lt_of_lt_of_le o2 qn,o3⟩
 . rw [show blks (O++picks L js)=blks O++blks (picks L js) by simp [blks]];refine List.nodup_append.2 ⟨ho.nodup,zcF s.own.nodup (List.nodup_append.1 hn).2.1,λa ha b hb e=>?_⟩;subst e;obtain ⟨p,hp,h1⟩:=zbm.1 ha;obtain ⟨p',hp',h2⟩:=zbm.1 hb;rcases (ho.out p hp a h1).2.2 with q1 | q1
   . have q1:h.next<=a:=q1;have:=(s.own.out p' (zbw hp') a h2).2.1;omega
   . exact zkx hn s.own.nodup hp' h2 q1
 . have:h'.get b=h.get b:=q.same b (Nat.lt_of_lt_of_le hb sn) (notin b hb hB);rw [this]; exact s.chg.same b hb hB
 . refine q.wm m (s.chg.wm m m1 m2 m3) (Nat.le_trans m2 sn) λb hb=>?_;rcases (inn b hb).2 with q1 | q1
   . omega
   . exact m3 b q1
theorem StZ.lent (s:StZ C M L z fr h) {ks:List Nat} (hn:ks.Nodup):zgT ⟨z,h,blks (picks L ks)⟩ z h (picks L ks):=
 ⟨λp hp=>s.own.ok p (zbw hp),λp hp b hb=>⟨(s.own.out p (zbw hp) b hb).1,(s.own.out p (zbw hp) b hb).2.1,.inr (zbm.2 ⟨p,hp,hb⟩)⟩,zcF s.own.nodup hn⟩
theorem zBl {c:Call} {x:Operand} {g:FuncId} {pre post:List zd} {as:List TE} {rs:List RE} {L0 Lr:Own} {L1:List zd->Own} (ks js:List Nat) (hf:zfL T g as L0 rs L1) (h0:picks L ks=L0) (hr:picks L js=Lr) (hn:(ks++js).Nodup) (hcst:T.consts.get g=Oe) (hw:Want ops M Od o.guard) (ho:o.op=.call c) (hd:o.dst=Ob t) (hc:c.callee=.value x) (hx:Opd M x (.raw (.func (.func g) [] []))) (hvs:Opds M c.args.toList as)
 (hq:∀ γ,RQ rs (L1 γ++Lr) λes L'=>zm C T Oe ops rest ((t,zoK es)::M) L' Q):zm C T Oe ops (o::rest) M L Q:=by
 subst h0 hr;intro fr h ⟨z,s⟩;have ha:aop T fr.op h o.op=Ob (.call (.func (.func g) [] []) (c.args.toList.map fr.op)):=by rw [ho]; simp only [aop,zc1,hc,hx.raw s.fr]
 simp only [wX,hw.ok s.fr,ha,hd,zaU];refine zdf hcst ?_;rw [List.nil_append,List.append_nil];refine (hf z h _ s.sub s.chg.ok (hvs.ok s.fr) (s.lent (List.nodup_append.1 hn).1)).mono λr h' ⟨us,z',γ,e1,hl,q,hz,hs,hold,hok,hown⟩=>⟨packed us,e1, ?_⟩;have s':=s.afterM (js:=js) hn q hz hs hold hown;rw [List.append_assoc] at s';exact (hq γ).at hl _ _ ⟨z',s'.set (zks hl hok)⟩
def zCd (C:Ctx) (T:Tab) (res:List ResultVar) (rs:List RE) (L1:List zd->Own) (e:zaQ) (fr:zi) (h:za):Prop:=
 (e=.normal\/e=.ret)/\∃ us z γ,aresults T res fr h=Ob us/\us.length=rs.length/\C.z0.le z/\z.Sub h/\(∀ b,b<C.h0.next->b∉C.B0->z b=C.z0 b)/\zB z (tes rs us) us/\zgT C z h (owns rs us++L1 γ)/\Chg C h
theorem zgg {L:Own}:∀ {is js:List Nat},picks L (is++js)=picks L is++picks L js
 | [],_=>rfl
 | i::is,js=>by
  simp only [List.cons_append,picks];cases L[i]? with
  | none=>exact zgg
  | some p=>simp only [List.cons_append,zgg]
theorem zP {e:zaQ} {res:List ResultVar} {rs:List RE} {L1:List zd->Own} {ks:List Nat} (js:List Nat) (γ:List zd) (he:e=.normal\/e=.ret) (q:Rets T M L res rs ks) (hL:picks L js=L1 γ) (hn:(ks++js).Nodup):∀ fr h,St C M L fr h->zCd C T res rs L1 e fr h:=by
 intro fr h ⟨z,s⟩;obtain ⟨us,h1,h2,h3,h4⟩:=q.ok s;refine ⟨he,us,z,γ,h1,h2,s.zle,s.sub,s.old,h3, ?_,s.chg⟩;rw [h4,← hL,← zgg];exact ⟨λp hp=>s.own.ok p (zbw hp),λp hp=>s.own.out p (zbw hp),zcF s.own.nodup hn⟩
theorem zco {g:FuncId} {F:Func} {c:Code} {as:List TE} {rs:List RE} {L0:Own} {L1:List zd->Own} (hF:T.funcs.get g=Ob F) (hb:F.body=Ob c) (hn:Nat.blt F.ntmps as.length=Oc) (run:∀ C,zeW C T c (entry 0 as) L0 (zCd C T F.results.toList rs L1)):zfL T g as L0 rs L1:=by
 intro z h vs hsub hwm hok hL;refine zmt hF hb (by rw [zbX hok]; exact hn) ?_;have s0:StZ ⟨z,h,blks L0⟩ (entry 0 as) L0 z (zcK 0 vs .leaf) h:=
  { zle:=.refl _,sub:=hsub,old:=λ_ _ _=>rfl,fr:=zjM hok,own:=hL,chg:=⟨Nat.le_refl _,λ_ _ _=>rfl,λ_ m1 _ _=>m1,hwm⟩ }
 refine (run ⟨z,h,blks L0⟩ _ _ ⟨z,s0⟩).mono λe fr h' ⟨he,us,z',γ,h1,h2,h3,h4,h5,h6,h7,h8⟩=>⟨he,us,h1,us,z',γ,rfl,h2,h8,h3,h4,λb hb=>h5 b hb,h6,h7⟩
def zqK (g:FuncId) (ps cs:List TE):Rep Unit:=
 ⟨1,Oc,λz xs _=>∃ us vs,xs=[.func (.func g) us vs]/\zB z ps us/\zB z cs vs,λ_ _ _ h=>by obtain ⟨u,v,h,_⟩:=h; rw [h]; rfl,
  λ_ _ _ _ e h=>let ⟨u,v,h1,h2,h3⟩:=h; ⟨u,v,h1,zdB e h2,zdB e h3⟩,λ_=>rfl,λ_ _ _ h=>by obtain ⟨u,v,h,_⟩:=h; rw [h]; rfl⟩
theorem znG {g:FuncId} {ps cs:List TE} {v:zd} {x:Unit} (q:TV (zqK g ps cs) z v x):∃ us vs,v=.func (.func g) us vs/\zB z ps us/\zB z cs vs:=by
 obtain ⟨⟨us,vs,h1,h2,h3⟩,h4⟩:=q;refine ⟨us,vs, ?_,h2,h3⟩;cases v<;>simp_all [zd.isAgg,zd.cells,zqK]
theorem zi0 {g:FuncId} {first captured:Array Operand} {ps cs:List TE} (hw:Want ops M Od o.guard) (ho:o.op=.makeFunc (.func g) first captured) (hd:o.dst=Ob t) (h1:Opds M first.toList ps) (h2:Opds M captured.toList cs)
 (r:zm C T d ops rest ((t,.val (zqK g ps cs) ())::M) L Q):zm C T d ops (o::rest) M L Q:=by
 refine zau (by rw [ho]; rfl) hw hd (λz fr h s=>?_) r;refine ⟨.func (.func g) (first.toList.map fr.op) (captured.toList.map fr.op),by rw [ho]; rfl, ?_⟩;simp only [TE.ok];exact ⟨⟨_,_,rfl,h1.ok s.fr,h2.ok s.fr⟩,rfl⟩
end
end Go.Ai.Sx