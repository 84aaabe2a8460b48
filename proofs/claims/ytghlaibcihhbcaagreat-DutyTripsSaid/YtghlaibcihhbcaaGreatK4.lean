/- Symbolic runs of the abstract interpreter: operations that write. -/
import Derived.Test.YtghlaibcihhbcaaGreatK3
set_option linter.unusedSimpArgs false
set_option linter.unusedVariables false
set_option linter.unusedSectionVars false
namespace Go.Ai.Sx
structure Ty (T:Tab) (et:TypeId) {A:Type} (R:Rep A) (bytes:Nat):Prop where
 info:∃ i,T.types.get et=some i/\i.bytes=bytes/\i.size=R.sz
 zero:∃ zv,ze0 T et=some zv/\zv.cells.length=R.sz
 pos:0<R.sz
structure Zr (T:Tab) (et:TypeId) {A:Type} (R:Rep A) (x:A):Prop where
 zero:∃ zv,ze0 T et=some zv/\∀ z,TV R z zv x
section
variable {C:Ctx} {T:Tab} {d:Option (List Nat)} {ops rest:List Oper} {Γ:Env} {L:Own} {Q:zi->za->Prop} {P:zaH->zi->za->Prop} {o:Oper} {t:Nat} {z:Store} {fr:zi} {h:za}
theorem zn1 {c:Code} {Γ':Env} {L':Own} (q:∀ z fr h,StZ C Γ L z fr h->∃ z',z.le z'/\StZ C Γ' L' z' fr h) (r:zeL C T c Γ' L' P):zeL C T c Γ L P:=λfr h ⟨z,s⟩=>by
 obtain ⟨z',_,s'⟩:=q z fr h s;exact r fr h ⟨z',s'⟩
theorem zbS {A:Type} (R:Rep A):∀ z fr h,StZ C Γ L z fr h->∃ z',z.le z'/\StZ C Γ ((.nilslice,.row R [])::L) z' fr h:=λz _ _ s=>⟨z,.refl _,s.nilrow R⟩
theorem zid {A:Type} {R:Rep A} {xs:List A} {v:ze} (k:Nat) (ts:List Nat) {L':Own} (hk:L[k]?=some (v,.row R xs)) (hL:zdU L k=some L') (hts:zic Γ v ts):∀ z fr h,StZ C Γ L z fr h->∃ z',z.le z'/\StZ C (zfX ts (.val (zd R) xs) Γ) L' z' fr h:=by
 intro z fr h s;obtain ⟨z',hz,s',hr⟩:=s.freeze hk hL;exact ⟨z',hz,{ s' with fr:=zev (by simp only [TE.ok]; exact zbR hr) hts s'.fr }⟩
theorem zwV {t:Nat} {e:TE} {L':Own} (hrd:Rd C d ops rest Γ L o) (hft:∀ z fr h,StZ C Γ L z fr h->zi3 z h (foot fr.op o)) (hw:Want ops Γ true o.guard) (hd:o.dst=some t) (H:∀ z fr h,StZ C Γ L z fr h->∃ v h' z',aop T fr.op h o.op=some (.val v h')/\z.le z'/\StZ C Γ L' z' fr h'/\e.ok z' v) (r:zm C T d ops rest ((t,e)::Γ) L' Q):zm C T d ops (o::rest) Γ L Q:=
 zfa hw hrd λz fr h s=>by
  obtain ⟨v,h',z',h1,hz,h2,h3⟩:=H z fr h s;exact ⟨v,h',z',_,_,h1,hft z fr h s,hz,by rw [hd,zaL]; exact h2.set h3,r⟩
theorem zoM {t:Nat} {e:ze->TE} {L':ze->Own} (hrd:Rd C d ops rest Γ L o) (hft:∀ z fr h,StZ C Γ L z fr h->zi3 z h (foot fr.op o)) (hw:Want ops Γ true o.guard) (hd:o.dst=some t) (H:∀ z fr h,StZ C Γ L z fr h->∃ v h' u,aop T fr.op h o.op=some (.val v h')/\StZ C Γ (L' u) z fr h'/\(e u).ok z v) (r:∀ u,zm C T d ops rest ((t,e u)::Γ) (L' u) Q):zm C T d ops (o::rest) Γ L Q:=
 zfa hw hrd λz fr h s=>by
  obtain ⟨v,h',u,h1,h2,h3⟩:=H z fr h s;exact ⟨v,h',z,_,_,h1,hft z fr h s,.refl _,by rw [hd,zaL]; exact h2.set h3,r u⟩
theorem zi4 {L':Own} (hrd:Rd C d ops rest Γ L o) (hft:∀ z fr h,StZ C Γ L z fr h->zi3 z h (foot fr.op o)) (hw:Want ops Γ true o.guard) (hd:o.dst=none) (H:∀ z fr h,StZ C Γ L z fr h->∃ v h',aop T fr.op h o.op=some (.val v h')/\StZ C Γ L' z fr h') (r:zm C T d ops rest Γ L' Q):zm C T d ops (o::rest) Γ L Q:=
 zfa hw hrd λz fr h s=>by
  obtain ⟨v,h',h1,h2⟩:=H z fr h s;exact ⟨v,h',z,_,_,h1,hft z fr h s,.refl _,by rw [hd,zsJ]; exact h2,r⟩
theorem zdn {cells vs:List ze} {off:Nat} (h:off+vs.length<=cells.length):(splice cells off vs).length=cells.length:=by
 unfold splice; simp; omega
theorem zgV {cells vs:List ze} {off p n:Nat} (h:off+vs.length<=cells.length) (hd:p+n<=off\/off+vs.length<=p):((splice cells off vs).drop p).take n=(cells.drop p).take n:=by
 apply List.ext_getElem?;intro i;unfold splice;simp only [List.getElem?_take,List.getElem?_drop,List.getElem?_append,List.length_append,List.length_take];repeat' split
 all_goals (try omega)
 all_goals (first | rfl | (congr 1; omega))
theorem zjZ {cells vs:List ze} {off p n k:Nat} (h:off+n<=cells.length) (hp:p=off+k) (hk:k+vs.length<=n):((splice cells p vs).drop off).take n=((cells.drop off).take n).take k++vs++((cells.drop off).take n).drop (k+vs.length):=by
 subst hp;apply List.ext_getElem?;intro i;unfold splice;simp only [List.getElem?_take,List.getElem?_drop,List.getElem?_append,List.length_append,List.length_take,List.length_drop];repeat' split
 all_goals (try omega)
 all_goals (first | rfl | (congr 1; omega) | (rw [List.getElem?_eq_none (by omega)]) | (symm; rw [List.getElem?_eq_none (by omega)]))
theorem zmY {i j m:Nat} (h:i≠j):i*m+m<=j*m\/j*m+m<=i*m:=by
 rcases Nat.lt_or_gt_of_ne h with q | q
 . left; have:=Nat.mul_le_mul_right m (show i+1<=j from q); rw [Nat.add_mul] at this; omega
 . right; have:=Nat.mul_le_mul_right m (show j+1<=i from q); rw [Nat.add_mul] at this; omega
theorem zsO {A B:Type} {R:Rep A} {S:Rep B} {g:A->B} {w:A->B->A} {x y:Operand} {et:TypeId} {a:A} {b:B} {xs:List A} {v:ze} {i off:Nat} (k:Nat) (hu:Und T et S) (hf:FOk R off S g w) (hi:xs[i]?=some a) (hw:Want ops Γ true o.guard) (ho:o.op=.store et x y) (hd:o.dst=none)
 (hx:Opd Γ x (.elt v i off)) (hy:Opd Γ y (.val S b)) (hk:L[k]?=some (v,.row R xs)) {L':Own} (hL:zfw L k (v,.row R (xs.set i (w a b)))=some L') (r:zm C T d ops rest Γ L' Q):zm C T d ops (o::rest) Γ L Q:=by
 have hfo:∀ z fr h,StZ C Γ L z fr h->foot fr.op o=⟨[],false,zL (fr.op x),false⟩:=λz fr h s=>by unfold foot; rw [ho]
 refine zi4 (.w (by rw [ho]; rfl) (λt a q=>by rw [ho] at q; cases q) (by rw [ho]; rfl) (λq=>by rw [ho] at q; cases q)) (λz fr h s=>by
  rw [hfo z fr h s];refine ⟨λb hb=>(nomatch hb),λb hb=>?_⟩;have hp:=hx.ok s.fr;simp only [TE.ok] at hp;obtain ⟨bb,oo,len,es,cap,q,hp⟩:=hp;rw [hp] at hb;refine zfc s hk rfl b ?_;subst q;simpa [zL] using hb) hw hd (λz fr h s=>?_) r
 have hr:=s.own.ok _ (List.mem_of_getElem? hk);simp only [Obj.ok] at hr;have hp:=hx.ok s.fr;simp only [TE.ok] at hp;obtain ⟨bb,oo,len,es,cap,rfl,hp⟩:=hp;have hval:=hy.val s.fr;rcases hr.2 with ⟨q,_⟩ | ⟨b',off',cap',cells,q,h2,h3,h4,h5⟩
 . cases q
 . cases q;have h6:=zd8 h3 hi;have hfit:=hf.fit;have hlen:=S.len _ _ _ hval.rel;have hin:oo+i*R.sz+off+(fr.op y).cells.length<=cells.length:=by omega
   refine ⟨.tuple [],h.set bb (.arr (splice cells (oo+i*R.sz+off) (fr.op y).cells) false), ?_,s.upd hk rfl rfl _ ?_ hL⟩
   . rw [ho];simp only [aop,hp,astore,h2,hu.sz];rw [if_pos (by exact ⟨hlen,by omega,S.ones _ _ _ hval.rel⟩)];rfl
   . simp only [Obj.ok];refine ⟨by rw [List.length_set]; exact hr.1,.inr ⟨bb,oo,cap,splice cells (oo+i*R.sz+off) (fr.op y).cells,by rw [List.length_set],by rw [za.get_set,if_pos rfl],by rw [zdn hin,List.length_set]; exact h3,by rw [zdn hin,List.length_set]; exact h4,λj u hj=>?_⟩⟩;rw [List.getElem?_set] at hj;by_cases q:i=j
     . subst q;rw [if_pos rfl,if_pos (List.getElem?_eq_some_iff.1 hi).1] at hj;cases hj;rw [zjZ (k:=off) h6 rfl (by omega),hlen];exact hf.set _ _ _ _ _ (h5 _ _ hi) hval.rel
     . rw [if_neg q] at hj;rw [zgV hin]
       . exact h5 _ _ hj
       . have:=zmY (m:=R.sz) q; omega
theorem zew (n:Nat) (zc:List ze):(copies n zc).length=n*zc.length:=by
 induction n with
 | zero=>simp [copies]
 | succ n ih=>simp only [copies,List.length_append,ih,Nat.add_mul]; omega
theorem zgW {n i:Nat} (zc:List ze) (h:i<n):((copies n zc).drop (i*zc.length)).take zc.length=zc:=by
 induction n generalizing i with
 | zero=>omega
 | succ n ih=>
  simp only [copies];cases i with
  | zero=>simp
  | succ i=>
   rw [List.drop_append,List.drop_eq_nil_of_le (by rw [Nat.add_mul]; omega),List.nil_append,Nat.add_mul,Nat.one_mul,Nat.add_sub_cancel];exact ih (by omega)
inductive Elts (Γ:Env) {A:Type} (R:Rep A):Nat->List (Nat×Operand)->List A->Prop where
 | n {i:Nat}:Elts Γ R i [] []
 | c {i:Nat} {x:Operand} {a:A} {ps:List (Nat×Operand)} {as:List A} (h:Opd Γ x (.val R a)) (r:Elts Γ R (i+1) ps as):Elts Γ R i ((i,x)::ps) (a::as)
theorem zj0 {A:Type} {R:Rep A} {ps:List (Nat×Operand)} {as:List A} {i:Nat} (e:Elts Γ R i ps as) (hf:zin z Γ fr) (hp:0<R.sz):∀ (cells:List ze),cells.length=(i+as.length)*R.sz ->
    ∃ cells',afill (λi=>some (i*R.sz,R.sz)) cells (zc7 fr.op ps)=some cells'/\cells'.length=cells.length/\(∀ j,j<i->(cells'.drop (j*R.sz)).take R.sz=(cells.drop (j*R.sz)).take R.sz) /\
      ∀ j a,as[j]?=some a->R.rel z ((cells'.drop ((i+j)*R.sz)).take R.sz) a:=by
  induction e with
  | n=>intro cells _; exact ⟨cells,rfl,rfl,λ_ _=>rfl,by simp⟩
  | @c i x a ps as hx _ ih=>
    intro cells hl;have hv:=hx.val hf;have hlen:=R.len _ _ _ hv.rel;simp only [List.length_cons] at hl;have hin:i*R.sz+(fr.op x).cells.length<=cells.length:=by
      rw [hl,hlen];have:=Nat.mul_le_mul_right R.sz (show i+1<=i+(as.length+1) by omega);rw [Nat.add_mul] at this; omega
    have hdef:(fr.op x).defd=true:=by
      have:=R.ones _ _ _ hv.rel;cases hq:fr.op x<;>rw [hq] at this<;>simp_all [ze.defd,ze.cells,ze.one]
    obtain ⟨c',h1,h2,h3,h4⟩:=ih (splice cells (i*R.sz) (fr.op x).cells) (by rw [zdn hin,hl]; congr 1; omega);refine ⟨c', ?_,by rw [h2,zdn hin],λj hj=>?_,λj a' hj=>?_⟩
    · simp only [zc7,List.map,afill];rw [if_pos ⟨hdef,hlen,hin⟩];exact h1
    · rw [h3 j (by omega),zgV hin];have:=zmY (m:=R.sz) (show i≠j by omega);have:=Nat.mul_le_mul_right R.sz (show j+1<=i from hj);rw [Nat.add_mul] at this;omega
    · cases j with
      | zero=>
        simp at hj; subst hj;rw [Nat.add_zero,h3 i (by omega),zjZ (n:=R.sz) (k:=0) (by omega) (Nat.add_zero _).symm (by omega)];have:((cells.drop (i*R.sz)).take R.sz).drop (0+(fr.op x).cells.length)=[]:=List.drop_eq_nil_of_le (by rw [List.length_take]; omega);rw [this];simpa using hv.rel
      | succ j=>
        have:=h4 j a' (by simpa using hj);rw [show i+(j+1)=i+1+j by omega]; exact this
theorem zwW {A:Type} {R:Rep A} {bytes:Nat} {st et:TypeId} {n:Nat} {parts:Array (Nat×Operand)} {as:List A} (hsl:Sl T st et R) (hty:Ty T et R bytes) (he:Elts Γ R 0 parts.toList as) (hn:as.length=n) (hb:n*R.sz<=2 ^ 24) (hf:zin z Γ fr) :
 ∃ cells,aop T fr.op h (.buildSlice st n parts)=some (.val (.slice h.next 0 n R.sz (some n)) (h.push (.arr cells false)))/\cells.length=n*R.sz/\∀ i x,as[i]?=some x->R.rel z ((cells.drop (i*R.sz)).take R.sz) x:=by
 obtain ⟨zv,h1,h2⟩:=hty.zero;obtain ⟨cells,h3,h4,_,h5⟩:=zj0 he hf hty.pos (copies n zv.cells) (by rw [zew,h2,← hn]; simp);refine ⟨cells, ?_,by rw [h4,zew,h2],λi x hx=>by simpa using h5 i x hx⟩;simp only [aop,zdM,hsl.und,hsl.sz,Option.getD_some,zcK,h1];rw [if_neg (by omega),if_neg (by have:=hty.pos; omega),if_pos h2,h3];rfl
theorem zzm {A:Type} {R:Rep A} {bytes:Nat} {st et:TypeId} {n:Nat} {parts:Array (Nat×Operand)} {as:List A} (hsl:Sl T st et R) (hty:Ty T et R bytes) (hw:Want ops Γ true o.guard) (ho:o.op=.buildSlice st n parts) (hd:o.dst=some t) (he:Elts Γ R 0 parts.toList as) (hn:as.length=n) (hb:n*R.sz<=2 ^ 24)
 (r:zm C T d ops rest ((t,.val (zd R) as)::Γ) L Q):zm C T d ops (o::rest) Γ L Q:=by
 refine zwV (nf (by rw [ho]; rfl)) (λ_ _ _ _=>nfo (by rw [ho]; rfl)) hw hd (λz fr h s=>?_) r;obtain ⟨cells,h1,h2,h3⟩:=zwW (h:=h) hsl hty he hn hb s.fr;refine ⟨_,_,z.add h.next (.arr cells false),by rw [ho]; exact h1,zib s.next_none,s.push _, ?_⟩;simp only [TE.ok];refine zbR ⟨?_,.inr (.inr ⟨h.next,0,_,cells,false,by rw [hn],zgU,by rw [hn]; omega,λc hc=>by cases hc; omega,λi x hx=>?_⟩)⟩
 . have:=Nat.mul_le_mul_left as.length hty.pos;rw [hn] at this ⊢;simp only [maxLen]; omega
 . rw [Nat.zero_add]; exact R.mono _ _ _ _ (zib s.next_none) (h3 i x hx)
theorem zuV {A:Type} {R:Rep A} {bytes:Nat} {st et:TypeId} {n:Nat} {parts:Array (Nat×Operand)} {as:List A} (hsl:Sl T st et R) (hty:Ty T et R bytes) (hw:Want ops Γ true o.guard) (ho:o.op=.buildSlice st n parts) (hd:o.dst=some t) (he:Elts Γ R 0 parts.toList as) (hn:as.length=n) (hb:n*R.sz<=2 ^ 24)
 (r:∀ v,zm C T d ops rest ((t,.raw v)::Γ) ((v,.row R as)::L) Q):zm C T d ops (o::rest) Γ L Q:=by
 refine zoM (e:=λv=>.raw v) (L':=λv=>(v,.row R as)::L) (nf (by rw [ho]; rfl)) (λ_ _ _ _=>nfo (by rw [ho]; rfl)) hw hd (λz fr h s=>?_) r;obtain ⟨cells,h1,h2,h3⟩:=zwW (h:=h) hsl hty he hn hb s.fr;refine ⟨_,_,.slice h.next 0 n R.sz (some n),by rw [ho]; exact h1,s.pushOwn _ rfl ?_,by simp only [TE.ok]⟩;simp only [Obj.ok];refine ⟨?_,.inr ⟨h.next,0,_,cells,by rw [hn],by rw [za.get_push,if_pos rfl],by rw [hn]; omega,λc hc=>by cases hc; omega,λi x hx=>?_⟩⟩
 . have:=Nat.mul_le_mul_left as.length hty.pos;rw [hn] at this ⊢;simp only [maxLen]; omega
 . rw [Nat.zero_add]; exact h3 i x hx
def mkO {A:Type} (bytes:Nat) (n:Int) (x:A):Option (List A):=if 0<=n/\(bytes:Int)*n<=2 ^ 47/\n<=2 ^ 62 then some (List.replicate n.toNat x) else none
theorem zzn {A:Type} {R:Rep A} {bytes:Nat} {st et:TypeId} {x:A} {l c:Operand} {n:Int} {xs:List A} (hsl:Sl T st et R) (hty:Ty T et R bytes) (hz:Zr T et R x) (hm:mkO bytes n x=some xs) (hw:Want ops Γ true o.guard) (ho:o.op=.makeSlice st l c) (hd:o.dst=some t) (hl:Opd Γ l (.val (zh .i64) n)) (hc:Opd Γ c (.val (zh .i64) n))
 (r:∀ v,zm C T d ops rest ((t,.raw v)::Γ) ((v,.row R xs)::L) Q):zm C T d ops (o::rest) Γ L Q:=by
 unfold mkO at hm;split at hm
 case isFalse=>cases hm
 cases hm;rename_i hcond;refine zoM (e:=λv=>.raw v) (L':=λv=>(v,.row R _)::L) (nf (by rw [ho]; rfl)) (λ_ _ _ _=>nfo (by rw [ho]; rfl)) hw hd (λz fr h s=>?_) r;obtain ⟨i,h1,h2,h3⟩:=hty.info;obtain ⟨zv,h4,h5⟩:=hz.zero;have h5:=h5 z;have hlen:=R.len _ _ _ h5.rel;refine ⟨.slice h.next 0 n.toNat R.sz (some n.toNat),h.push (.arr (copies n.toNat zv.cells) false),.slice h.next 0 n.toNat R.sz (some n.toNat), ?_,s.pushOwn _ rfl ?_,by simp only [TE.ok]⟩
 . rw [ho];simp only [aop,hl.int s.fr,hc.int s.fr,zep,hsl.und,h1,h2];rw [if_pos ⟨hcond.1,Int.le_refl _,by simpa using hcond.2⟩];simp only [zcK,hsl.sz,h4];rw [if_neg (by have:=hty.pos; omega),if_pos hlen];rfl
 . simp only [Obj.ok];have hcl:(copies n.toNat zv.cells).length=n.toNat*R.sz:=by rw [zew,hlen]
   refine ⟨by rw [List.length_replicate]; simp only [maxLen]; omega,.inr ⟨h.next,0,_,copies n.toNat zv.cells,by rw [List.length_replicate],by rw [za.get_push,if_pos rfl],by rw [List.length_replicate]; omega,λc hc=>by cases hc; rw [List.length_replicate]; omega,λi x' hx=>?_⟩⟩;have hi:=(List.getElem?_eq_some_iff.1 hx).1;rw [List.length_replicate] at hi;rw [List.getElem?_replicate,if_pos hi] at hx;cases hx;rw [Nat.zero_add,← hlen,zgW _ hi];exact h5.rel
def zcL {A:Type} (bytes:Nat) (xs ys:List A):Option (List A):=if (xs.length+ys.length)*bytes<=2 ^ 46/\xs.length+ys.length<=2 ^ 62 then some (xs++ys) else none
theorem zsP {A:Type} {R:Rep A} {v:ze} {ys:List A} (hr:zhr R z v ys) (hsub:z.Sub h):lenOf v=ys.length/\∃ news,arow R.sz ys.length v h=some news/\news.length=ys.length*R.sz/\news.all ze.one=true/\∀ i y,ys[i]?=some y->R.rel z ((news.drop (i*R.sz)).take R.sz) y:=by
 rcases hr.2 with ⟨rfl,rfl⟩ | ⟨b,off,cap,rfl,rfl,hg⟩ | ⟨b,off,cap,cells,ro,rfl,hg,hl,hcap,hx⟩
 . exact ⟨rfl,[],rfl,by simp,rfl,by simp⟩
 . exact ⟨rfl,[],by simp only [arow]; rfl,by simp,rfl,by simp⟩
 . refine ⟨rfl,(cells.drop off).take (ys.length*R.sz), ?_,by simp; omega, ?_,λi y hy=>?_⟩
   . simp only [arow,(hsub _ _ hg).1];by_cases h0:ys.length=0
     . rw [if_pos h0,if_pos trivial,h0]; simp
     . rw [if_neg h0,if_pos (by exact ⟨by trivial,Nat.le_refl _⟩),if_pos hl]
   . refine List.all_eq_true.2 λc hc=>?_;obtain ⟨j,hj,rfl⟩:=List.getElem_of_mem hc;simp only [List.length_take,List.length_drop] at hj;have hsz:0<R.sz:=by
      rcases Nat.eq_zero_or_pos R.sz with q | q
      . rw [q] at hj; omega
      . exact q
     have hi:j/R.sz<ys.length:=by rw [Nat.div_lt_iff_lt_mul hsz]; omega
     have h1:=R.ones _ _ _ (hx _ _ (List.getElem?_eq_getElem hi));rw [List.all_eq_true] at h1;refine h1 _ (List.mem_of_getElem? (i:=j%R.sz) ?_);have hm:=Nat.mod_lt j hsz;have e:=Nat.div_add_mod j R.sz;rw [Nat.mul_comm] at e;rw [List.getElem?_take,if_pos hm,List.getElem?_drop,Nat.add_assoc,e];simp
   . have h1:=hx i y hy;have h2:=zd8 (off:=0) (i:=i) (R:=R) (cells:=(cells.drop off).take (ys.length*R.sz)) (by simp; omega) hy;rw [List.drop_take,List.take_take,List.drop_drop,Nat.min_eq_left]
     . exact h1
     . simp at h2; omega
theorem zqP {l m:List ze} {p n:Nat} (h:p+n<=l.length):((l++m).drop p).take n=(l.drop p).take n:=by
 apply List.ext_getElem?;intro i;simp only [List.getElem?_take,List.getElem?_drop,List.getElem?_append];repeat' split
 all_goals (first | rfl | omega)
theorem zpE {l m:List ze} {p n:Nat} (h:l.length<=p):((l++m).drop p).take n=(m.drop (p-l.length)).take n:=by
 apply List.ext_getElem?;intro i;simp only [List.getElem?_take,List.getElem?_drop,List.getElem?_append];repeat' split
 all_goals (first | rfl | omega | (congr 1; omega))
theorem zsQ {A:Type} {R:Rep A} {xs ys:List A} {old news:List ze} (ho:old.length=xs.length*R.sz) (hn:news.length=ys.length*R.sz) (h1:∀ (i:Nat) (x:A),xs[i]?=some x->R.rel z ((old.drop (i*R.sz)).take R.sz) x) (h2:∀ (i:Nat) (y:A),ys[i]?=some y->R.rel z ((news.drop (i*R.sz)).take R.sz) y) :
 ∀ (i:Nat) (x:A),(xs++ys)[i]?=some x->R.rel z (((old++news).drop (i*R.sz)).take R.sz) x:=by
 intro i x hi;rw [List.getElem?_append] at hi;split at hi
 . rename_i q;rw [zqP]
   . exact h1 i x hi
   . rw [ho]; have:=Nat.mul_le_mul_right R.sz (show i+1<=xs.length from q); rw [Nat.add_mul] at this; omega
 . rename_i q;have hq:xs.length*R.sz<=i*R.sz:=Nat.mul_le_mul_right _ (by omega);rw [zpE (by omega),ho,← Nat.sub_mul];exact h2 _ x hi
def zgz (d:Option (List Nat)) (Γ:Env) (L:Own) (k:Nat):Prop:=∀ ol,d=some ol->∀ r∈zcn ol,(∃ b o j p,look Γ r=some (.raw (.ptr b o))/\L[j]?=some p/\b∈zeK p/\j≠k)\/∃ (A:Type) (R:Rep A) (x:A),look Γ r=some (.val (zS R) x)
theorem zyi {k:Nat}:zgz none Γ L k:=λ_ h=>(nomatch h)
theorem zyj {ol:List Nat} {k:Nat} (h:zcn ol=[]):zgz (some ol) Γ L k:=λ_ e r hr=>by
 cases e; rw [h] at hr; cases hr
inductive zpF (Γ:Env) (L:Own) (k:Nat):List Nat->Prop where
 | n:zpF Γ L k []
 | o {r b o:Nat} {es:List TE} {rs:List Nat} (j:Nat) (hl:look Γ r=some (.raw (.ptr b o))) (hj:L[j]?=some (.ptr b 0,.box es)) (hne:j≠k) (t:zpF Γ L k rs):zpF Γ L k (r::rs)
 | q {A:Type} {R:Rep A} {x:A} {r:Nat} {rs:List Nat} (hl:look Γ r=some (.val (zS R) x)) (t:zpF Γ L k rs):zpF Γ L k (r::rs)
theorem roffs {ol rs:List Nat} {k:Nat} (h:zcn ol=rs) (ha:zpF Γ L k rs):zgz (some ol) Γ L k:=λ_ e r hr=>by
 cases e;rw [h] at hr;clear h;induction ha with
 | n=>cases hr
 | @o r0 b o es rs j hl hj hne t ih=>
  rcases List.mem_cons.1 hr with rfl | hr
  . exact .inl ⟨b,o,j,_,hl,hj,by simp [zeK,zh4],hne⟩
  . exact ih hr
 | @q A R x r0 rs hl t ih=>
  rcases List.mem_cons.1 hr with rfl | hr
  . exact .inr ⟨A,R,x,hl⟩
  . exact ih hr
theorem ROO {p:Prop} (h:p:=by first | exact zyi | exact zyj rfl):p:=h
theorem zwX {A:Type} {R:Rep A} {x y:Operand} {c:Call} {v:ze} {xs:List A} {k:Nat} (hx:Opd Γ x (.raw v)) (hk:L[k]?=some (v,.row R xs)) (ho:o.op=.call c) (hc:c.callee=.builtin .append) (ha:c.args.toList=[x,y]) (hra:zgz d Γ L k):zwP C d Γ L o:=λ_ ol hd r hr z fr h s u hu hw=>by
 rw [show foot fr.op o=⟨((c.args.toList.map fr.op).drop 1).flatMap zL,false,((c.args.toList.map fr.op).take 1).flatMap zL,false⟩ by unfold foot; rw [ho]; simp only [hc]] at hw;simp only [ha,List.map,List.take_succ_cons,List.take_zero,List.flatMap_cons,List.flatMap_nil,List.append_nil,hx.raw s.fr] at hw;rcases hra ol hd r hr with ⟨b,o',j,p,h1,h2,h3,h4⟩ | ⟨A',R',y',h1⟩
 . have e:=s.fr _ _ h1;simp only [TE.ok] at e;rw [e] at hu;simp only [zL,List.mem_singleton] at hu;subst hu;refine h4 (zdm s.own.nodup h2 hk h3 ?_);cases v<;>simp_all [zeK,zh4,zL]
 . have e:=s.fr _ _ h1;simp only [TE.ok] at e;obtain ⟨b',off,cells,ro,q1,q2,_⟩:=zh6 e;rw [q1] at hu;simp only [zL,List.mem_singleton] at hu;subst hu;have hbe:u∈zeK (v,Obj.row R xs):=by cases v<;>simp_all [zeK,zh4,zL]
   rw [(s.own.out _ (List.mem_of_getElem? hk) _ hbe).1] at q2;cases q2
theorem zn2 {A:Type} {R:Rep A} {bytes:Nat} {x y:Operand} {c:Call} {st et:TypeId} {v:ze} {xs ys zs:List A} (k:Nat) (hsl:Sl T st et R) (hty:Ty T et R bytes) (hap:zcL bytes xs ys=some zs) (hw:Want ops Γ true o.guard) (ho:o.op=.call c) (hd:o.dst=some t) (hc:c.callee=.builtin .append) (ha:c.args.toList=[x,y]) (hat:c.argTypes.toList=[st,st])
    (hx:Opd Γ x (.raw v)) (hk:L[k]?=some (v,.row R xs)) (hy:Opd Γ y (.val (zd R) ys)) {L':Own} (hL:zdU L k=some L') (r:∀ v',zm C T d ops rest ((t,.raw v')::Γ) ((v',.row R zs)::L') Q) (hra:zgz d Γ L k:=by exact ROO):zm C T d ops (o::rest) Γ L Q:=by
  unfold zcL at hap;split at hap
  case isFalse=>cases hap
  cases hap;rename_i hcond;obtain ⟨hcb,hcl⟩:=hcond;refine zoM (e:=λv'=>.raw v') (L':=λv'=>(v',.row R (xs++ys))::L') (.w (by rw [ho]; simp only [zcY,hc]) (λt a q=>by rw [ho] at q; cases q) (by rw [ho]; simp only [znX,hc]) (zwX hx hk ho hc ha hra)) (λz fr h s=>by
    rw [show foot fr.op o=⟨((c.args.toList.map fr.op).drop 1).flatMap zL,false,((c.args.toList.map fr.op).take 1).flatMap zL,false⟩ by unfold foot; rw [ho]; simp only [hc]];simp only [ha,List.map,List.drop_succ_cons,List.drop_zero,List.take_succ_cons,List.take_zero,List.flatMap_cons,List.flatMap_nil,List.append_nil,hx.raw s.fr];exact ⟨zxY s.sub (zgy (hy.val s.fr)),zfc s hk rfl⟩) hw hd (λz fr h s=>?_) r
  have hr:=s.own.ok _ (List.mem_of_getElem? hk);simp only [Obj.ok] at hr;obtain ⟨hl0,news,hrow,hnl,hone,hnews⟩:=zsP (zgy (hy.val s.fr)) s.sub;obtain ⟨i,h1,h2,h3⟩:=hty.info;obtain ⟨zv,h4,h5⟩:=hty.zero;have hpos:=hty.pos;have hml:(xs++ys).length<=maxLen:=by rw [List.length_append]; simp only [maxLen]; omega
  have sd:=s.drop hL;have frame:∀ w h',aappend T c.argTypes v (fr.op y) h=some (w,h')->aop T fr.op h o.op=some (.val w h'):=by
    intro w h' e;rw [ho];simp only [aop,zcD,hc,abuiltin,ha,List.map,hx.raw s.fr,e,zfV,Option.map]
  -- a new block
  have fresh:∀ (h1:za) (s1:StZ C Γ L' z fr h1) (old:List ze),h1.next=h.next->old.length=xs.length*R.sz->(∀ (i:Nat) (x:A),xs[i]?=some x->R.rel z ((old.drop (i*R.sz)).take R.sz) x) ->
      StZ C Γ ((.slice h.next 0 (xs.length+ys.length) R.sz none,.row R (xs++ys))::L') z fr (h1.push (.arr (old++news) false)):=by
    intro h1 s1 old e hol hold;rw [← e];refine s1.pushOwn _ rfl ?_;simp only [Obj.ok];refine ⟨hml,.inr ⟨h1.next,0,none,old++news,by rw [List.length_append],by rw [za.get_push,if_pos rfl],by rw [List.length_append,List.length_append,hol,hnl,Nat.add_mul]; omega,λc q=>(nomatch q),λi x hi=>?_⟩⟩;rw [Nat.zero_add];exact zsQ hol hnl hold hnews i x hi
  rcases hr.2 with ⟨rfl,rfl⟩ | ⟨b,off,cap,cells,rfl,g1,g2,g3,g4⟩
  · by_cases hn0:ys.length=0
    · have:ys=[]:=List.length_eq_zero_iff.1 hn0;subst this;refine ⟨.nilslice,h,.nilslice,frame _ _ ?_,sd.nilrow R,by simp only [TE.ok]⟩;simp only [aappend,hat,hsl.und,h1,h4,h5,h3,hl0,hrow];simp [Nat.ne_of_gt hpos]
    · refine ⟨.slice h.next 0 (([]:List A).length+ys.length) R.sz none,_,.slice h.next 0 (([]:List A).length+ys.length) R.sz none,frame _ _ ?_,fresh h sd [] rfl (by simp) (by simp),by simp only [TE.ok]⟩;simp only [aappend,hat,hsl.und,h1,h4,h5,h3,hl0,hrow,h2];have hne:¬ (R.sz=0\/R.sz≠R.sz):=by omega
      simp only [List.length_nil,Nat.zero_add] at hcb hcl;rw [if_neg (λq=>q rfl),if_neg hne,if_neg hn0,if_pos ⟨hcb,hcl⟩];simp
  · have hne:¬ (R.sz=0\/R.sz≠R.sz):=by omega
    have hold:∀ (i:Nat) (x:A),xs[i]?=some x->R.rel z ((((cells.drop off).take (xs.length*R.sz)).drop (i*R.sz)).take R.sz) x:=by
      intro i x hi;have h6:=zd8 (off:=0) (i:=i) (R:=R) (cells:=(cells.drop off).take (xs.length*R.sz)) (by simp; omega) hi;rw [List.drop_take,List.take_take,List.drop_drop,Nat.min_eq_left]
      · exact g4 i x hi
      · simp at h6; omega
    have hol:((cells.drop off).take (xs.length*R.sz)).length=xs.length*R.sz:=by simp; omega
    have base:∀ w h',(match cap with
                 | some c=>
                   if xs.length+ys.length<=c then
                     (if (false=false)/\off+(xs.length+ys.length)*R.sz<=cells.length/\news.all ze.one=true
                      then some (ze.slice b off (xs.length+ys.length) R.sz cap,h.set b (.arr (splice cells (off+xs.length*R.sz) news) false)) else none)
                   else if off+xs.length*R.sz<=cells.length then
                     some (ze.slice h.next 0 (xs.length+ys.length) R.sz none,h.push (.arr ((cells.drop off).take (xs.length*R.sz)++news) false)) else none
                 | none=>if (false=false)/\off+xs.length*R.sz<=cells.length/\news.all ze.one=true then
                     some (ze.slice h.next 0 (xs.length+ys.length) R.sz none,(h.set b .dead).push (.arr ((cells.drop off).take (xs.length*R.sz)++news) false)) else none)=some (w,h') ->
        aappend T c.argTypes (.slice b off xs.length R.sz cap) (fr.op y) h=some (w,h'):=by
      intro w h' e;simp only [aappend,hat,hsl.und,h1,h4,h5,h3,hl0,hrow,h2,g1];rw [if_neg (λq=>q rfl),if_neg hne,if_pos ⟨trivial,hcb,hcl⟩];cases cap<;>simpa using e
    cases cap with
    | none=>
      refine ⟨.slice h.next 0 (xs.length+ys.length) R.sz none,_,.slice h.next 0 (xs.length+ys.length) R.sz none,frame _ _ (base _ _ (if_pos ⟨rfl,g2,hone⟩)),fresh (h.set b .dead) ?_ _ rfl hol hold,by simp only [TE.ok]⟩;obtain ⟨o1,o2,o3⟩:=s.own.out _ (List.mem_of_getElem? hk) b (by simp [zeK,zh4]);refine sd.wild o1 o2 o3 ?_ .dead;have hp:=(List.Perm.flatMap_right zeK (zeu hk hL)).nodup_iff.2 s.own.nodup;have hp:(blks ((ze.slice b off xs.length R.sz none,Obj.row R xs)::L')).Nodup:=hp;rw [zaa] at hp;exact λq=>(List.nodup_append.1 hp).2.2 b (by simp [zeK,zh4]) b q rfl
    | some cc=>
      by_cases hroom:xs.length+ys.length<=cc
      · have hfit:off+(xs.length+ys.length)*R.sz<=cells.length:=by
          have:=(g3 cc rfl).2;have:=Nat.mul_le_mul_right R.sz hroom;omega
        have hin:off+xs.length*R.sz+news.length<=cells.length:=by rw [hnl,Nat.add_assoc,← Nat.add_mul]; exact hfit
        refine ⟨.slice b off (xs.length+ys.length) R.sz (some cc),_,.slice b off (xs.length+ys.length) R.sz (some cc),frame _ _ (base _ _ ((if_pos hroom).trans (if_pos ⟨rfl,hfit,hone⟩))),(s.front hk hL).upd (k:=0) rfl rfl rfl _ ?_ rfl,by simp only [TE.ok]⟩;simp only [Obj.ok];refine ⟨hml,.inr ⟨b,off,some cc,splice cells (off+xs.length*R.sz) news,by rw [List.length_append],by rw [za.get_set,if_pos rfl],by rw [zdn hin,List.length_append]; exact hfit,λc q=>by cases q; rw [zdn hin,List.length_append]; exact ⟨hroom,(g3 _ rfl).2⟩,λi x hi=>?_⟩⟩;rw [List.getElem?_append] at hi;split at hi
        · rename_i q;rw [zgV hin]
          · exact g4 i x hi
          · left; have:=Nat.mul_le_mul_right R.sz (show i+1<=xs.length from q); rw [Nat.add_mul] at this; omega
        · rename_i q;have hy':=(List.getElem?_eq_some_iff.1 hi).1;have e:i*R.sz=xs.length*R.sz+(i-xs.length)*R.sz:=by rw [← Nat.add_mul]; congr 1; omega
          have h7:=hnews _ _ hi;have h8:=zd8 (off:=0) (i:=i-xs.length) (R:=R) (cells:=news) (by omega) hi;have:((splice cells (off+xs.length*R.sz) news).drop (off+i*R.sz)).take R.sz=(news.drop ((i-xs.length)*R.sz)).take R.sz:=by
            apply List.ext_getElem?;intro j;unfold splice;simp only [List.getElem?_take,List.getElem?_drop,List.getElem?_append,List.length_append,List.length_take];repeat' split
            all_goals (try omega)
            all_goals (first | rfl | (congr 1; omega))
          rw [this]; exact h7
      · refine ⟨.slice h.next 0 (xs.length+ys.length) R.sz none,_,.slice h.next 0 (xs.length+ys.length) R.sz none,frame _ _ (base _ _ ((if_neg hroom).trans (if_pos g2))),fresh h sd _ rfl hol hold,by simp only [TE.ok]⟩
end
end Go.Ai.Sx
/- Symbolic runs of the abstract interpreter: boxes and structs. -/
namespace Go.Ai.Sx
structure Stt (T:Tab) (t:TypeId) (zc:List ze) (places:List (Nat×Nat)):Prop where
 zero:ze0 T t=some (.agg zc)
 pl:∃ fs,T.und t=some (.struct fs)/\aplaces T fs.toList=some places
theorem zint {z:Store}:(zh .i64).rel z [.int .i64 0] 0:=⟨rfl,by decide,by decide⟩
theorem zbool {z:Store}:zu.rel z [.bool false] false:=rfl
theorem znil {A:Type} {R:Rep A} {z:Store}:(zd R).rel z [.nilslice] []:=⟨_,rfl,ziD⟩
theorem zunit {z:Store}:zce.rel z [] ():=rfl
theorem zpair {A B:Type} {R:Rep A} {S:Rep B} {z:Store} {c1 c2 cs:List ze} {a:A} {b:B} (h1:R.rel z c1 a) (h2:S.rel z c2 b) (e:c1++c2=cs):(zz R S).rel z cs (a,b):=⟨c1,c2,e.symm,h1,h2⟩
section
variable {C:Ctx} {T:Tab} {d:Option (List Nat)} {ops rest:List Oper} {Γ:Env} {L:Own} {Q:zi->za->Prop} {P:zaH->zi->za->Prop} {o:Oper} {t:Nat} {z:Store} {fr:zi} {h:za}
inductive Bld (Γ:Env) (zc:List ze) (places:List (Nat×Nat)):{A:Type}->Rep A->Nat->Nat->List (Nat×Operand)->A->Prop where
 | n {i off:Nat} (e:zc.length=off):Bld Γ zc places zce i off [] ()
 | p {A B:Type} {R:Rep A} {S:Rep B} {i off:Nat} {x:Operand} {ps:List (Nat×Operand)} {a:A} {b:B} (hx:Opd Γ x (.val R a)) (hp:places[i]?=some (off,R.sz)) (r:Bld Γ zc places S (i+1) (off+R.sz) ps b):Bld Γ zc places (zz R S) i off ((i,x)::ps) (a,b)
 | z {A B:Type} {R:Rep A} {S:Rep B} {i off:Nat} {ps:List (Nat×Operand)} {a:A} {b:B} (hz:∀ z,R.rel z ((zc.drop off).take R.sz) a) (r:Bld Γ zc places S (i+1) (off+R.sz) ps b):Bld Γ zc places (zz R S) i off ps (a,b)
theorem zsR {zc:List ze} {places:List (Nat×Nat)} {A:Type} {R:Rep A} {i off:Nat} {ps:List (Nat×Operand)} {a:A} (b:Bld Γ zc places R i off ps a) (hf:zin z Γ fr):off+R.sz=zc.length/\∀ (cells:List ze),cells.length=zc.length->cells.drop off=zc.drop off ->
    ∃ cells',afill (λi=>places[i]?) cells (zc7 fr.op ps)=some cells'/\cells'.length=zc.length/\cells'.take off=cells.take off/\R.rel z (cells'.drop off) a:=by
  induction b with
  | n e=>exact ⟨e.symm,λcells hl _=>⟨cells,rfl,hl,rfl,List.drop_eq_nil_of_le (by omega)⟩⟩
  | @p A B R S i off x ps a b hx hp _ ih=>
    obtain ⟨ih0,ih⟩:=ih;simp only [zz] at *
    refine ⟨by omega,λcells hl hd=>?_⟩;have hv:=hx.val hf;have hlen:=R.len _ _ _ hv.rel;have hin:off+(fr.op x).cells.length<=cells.length:=by omega
    have hdef:(fr.op x).defd=true:=by
      cases hq:fr.op x with
      | undef=>
        have h1:=hv.agg;have h2:=R.ones _ _ _ hv.rel;rw [hq] at h2; simp [ze.cells,ze.one] at h2
      | _=>rfl
    have hsl:=zdn hin;obtain ⟨c',h1,h2,h3,h4⟩:=ih (splice cells off (fr.op x).cells) (by omega) (by
      have e:(splice cells off (fr.op x).cells).drop (off+R.sz)=cells.drop (off+R.sz):=by
        apply List.ext_getElem?;intro j;unfold splice;simp only [List.getElem?_drop,List.getElem?_append,List.length_append,List.length_take];repeat' split
        all_goals (try omega)
        all_goals (first | rfl | (congr 1; omega))
      rw [e];have:=congrArg (List.drop R.sz) hd;rwa [List.drop_drop,List.drop_drop] at this)
    refine ⟨c', ?_,h2, ?_,(fr.op x).cells,c'.drop (off+R.sz), ?_,hv.rel,h4⟩
    · simp only [zc7,List.map,afill,hp];rw [if_pos ⟨hdef,hlen,hin⟩];exact h1
    · have:=congrArg (List.take off) h3;rw [List.take_take,List.take_take,Nat.min_eq_left (by omega)] at this;rw [this];unfold splice;rw [List.append_assoc,List.take_append_of_le_length (by simp; omega),List.take_take,Nat.min_self]
    · have e:c'.drop off=(c'.drop off).take R.sz++c'.drop (off+R.sz):=by
        rw [← List.drop_drop]; exact (List.take_append_drop _ _).symm
      rw [e];congr 1;have:=congrArg (List.drop off) h3;rw [List.drop_take,List.drop_take,Nat.add_sub_cancel_left] at this;rw [this,zjZ (n:=R.sz) (k:=0) (by omega) (Nat.add_zero _).symm (by omega)];have:((cells.drop off).take R.sz).drop (0+(fr.op x).cells.length)=[]:=List.drop_eq_nil_of_le (by rw [List.length_take]; omega);rw [this]; simp
  | @z A B R S i off ps a b hz _ ih=>
    obtain ⟨ih0,ih⟩:=ih;simp only [zz] at *
    refine ⟨by omega,λcells hl hd=>?_⟩;obtain ⟨c',h1,h2,h3,h4⟩:=ih cells hl (by
      have:=congrArg (List.drop R.sz) hd;rwa [List.drop_drop,List.drop_drop] at this)
    refine ⟨c',h1,h2, ?_,(zc.drop off).take R.sz,c'.drop (off+R.sz), ?_,hz _,h4⟩
    · have:=congrArg (List.take off) h3;rwa [List.take_take,List.take_take,Nat.min_eq_left (by omega)] at this
    · have e:c'.drop off=(c'.drop off).take R.sz++c'.drop (off+R.sz):=by
        rw [← List.drop_drop]; exact (List.take_append_drop _ _).symm
      rw [e];congr 1;have:=congrArg (List.drop off) h3;rw [List.drop_take,List.drop_take,Nat.add_sub_cancel_left,hd] at this;exact this
theorem zlS {A:Type} {R:Rep A} {zc:List ze} {places:List (Nat×Nat)} {tt:TypeId} {parts:Array (Nat×Operand)} {a:A} (hst:Stt T tt zc places) (hw:Want ops Γ true o.guard) (ho:o.op=.build tt parts) (hd:o.dst=some t) (hagg:R.agg=true) (hb:Bld Γ zc places R 0 0 parts.toList a)
 (r:zm C T d ops rest ((t,.val R a)::Γ) L Q):zm C T d ops (o::rest) Γ L Q:=by
 refine zam (by rw [ho]; rfl) hw hd (λz fr h s=>?_) r;obtain ⟨fs,h1,h2⟩:=hst.pl;obtain ⟨h0,hb⟩:=zsR hb s.fr;obtain ⟨c',h3,h4,_,h5⟩:=hb zc rfl rfl;refine ⟨.agg c', ?_,by simp only [TE.ok]; exact ⟨by rw [List.drop_zero] at h5; exact h5,by rw [hagg]; rfl⟩⟩;rw [ho];simp only [aop,abuild,hst.zero,h1,h2,ze.cells,h3,zW,Option.map]
theorem zbE:∀ {es:List TE} {vs:List ze},zA z es vs->vs.length=es.length
 | [],_,h=>by simp only [zA] at h; rw [h]; rfl
 | e::es,_,h=>by
  simp only [zA] at h;obtain ⟨v,vs',rfl,_,h2⟩:=h;simp [zbE h2]
theorem zjo:∀ {es:List TE} {vs:List ze} {i:Nat} {e:TE},zA z es vs->es[i]?=some e->∃ v,vs[i]?=some v/\e.ok z v
 | [],_,_,_,_,hi=>by simp at hi
 | a::es,_,i,e,h,hi=>by
  simp only [zA] at h;obtain ⟨v,vs',rfl,h1,h2⟩:=h;cases i with
  | zero=>simp at hi; subst hi; exact ⟨v,rfl,h1⟩
  | succ i=>simpa using zjo h2 (by simpa using hi)
theorem zgX:∀ {es:List TE} {vs:List ze} {i:Nat} {e:TE} {v:ze},zA z es vs->e.ok z v->zA z (es.set i e) (vs.set i v)
 | [],_,_,_,_,h,_=>by simp only [zA] at h; subst h; simp [zA]
 | a::es,_,i,e,v,h,hv=>by
  simp only [zA] at h;obtain ⟨u,vs',rfl,h1,h2⟩:=h;cases i with
  | zero=>simp only [List.set_cons_zero,zA]; exact ⟨v,vs',rfl,hv,h2⟩
  | succ i=>simp only [List.set_cons_succ,zA]; exact ⟨u,_,rfl,h1,zgX h2 hv⟩
def Cells {A:Type} (R:Rep A) (a:A) (es:List TE):Prop:=∀ z cs,R.rel z cs a↔zA z es cs
theorem zB {A:Type} {R:Rep A} {a:A} (h:R.agg=false):Cells R a [.val R a]:=by
 intro z cs;simp only [zA,TE.ok];have h1:=R.one h;constructor
 . intro hr;have hl:=R.len _ _ _ hr;have ho:=R.ones _ _ _ hr
   match cs,hl with
   | [c],_=>
    simp at ho;refine ⟨c,[],rfl,⟨?_, ?_⟩,rfl⟩
    . have:c.cells=[c]:=by cases c<;>simp_all [ze.cells,ze.one]
      rw [this]; exact hr
    . rw [h]; cases c<;>simp_all [ze.isAgg,ze.one]
   | [],hl=>rw [h1] at hl; simp at hl
   | _::_::_,hl=>rw [h1] at hl; simp at hl
 . rintro ⟨v,vs,rfl,hv,rfl⟩
   have:v.cells=[v]:=by
    have:=hv.agg;rw [h] at this;cases v<;>simp_all [ze.cells,ze.isAgg]
   rw [← this]; exact hv.rel
theorem zb0:Cells zce () []:=by intro z cs; simp [zce,zA]
theorem zd9:∀ {es fs:List TE} {cs:List ze},zA z (es++fs) cs↔∃ c1 c2,cs=c1++c2/\zA z es c1/\zA z fs c2
 | [],fs,cs=>by
  simp only [List.nil_append,zA];constructor
  . intro h; exact ⟨[],cs,rfl,rfl,h⟩
  . rintro ⟨c1,c2,rfl,rfl,h⟩; exact h
 | e::es,fs,cs=>by
  simp only [List.cons_append,zA];constructor
  . rintro ⟨v,vs,rfl,h1,h2⟩
    obtain ⟨c1,c2,rfl,h3,h4⟩:=zd9.1 h2;exact ⟨v::c1,c2,rfl,⟨v,c1,rfl,h1,h3⟩,h4⟩
  . rintro ⟨c1,c2,rfl,⟨v,vs,rfl,h1,h2⟩,h3⟩
    exact ⟨v,vs++c2,rfl,h1,zd9.2 ⟨vs,c2,rfl,h2,h3⟩⟩
theorem zq {A B:Type} {R:Rep A} {S:Rep B} {a:A} {b:B} {es fs gs:List TE} (h1:Cells R a es) (h2:Cells S b fs) (e:es++fs=gs):Cells (zz R S) (a,b) gs:=by
 subst e;intro z cs;rw [zd9];constructor
 . rintro ⟨c1,c2,rfl,h3,h4⟩; exact ⟨c1,c2,rfl,(h1 _ _).1 h3,(h2 _ _).1 h4⟩
 . rintro ⟨c1,c2,rfl,h3,h4⟩; exact ⟨c1,c2,rfl,(h1 _ _).2 h3,(h2 _ _).2 h4⟩
theorem zqQ {et:TypeId} {zv:ze} {es:List TE} (hz:ze0 T et=some zv) (hes:∀ z,zA z es zv.cells) (h1:zv.cells.all ze.one=true) (hw:Want ops Γ true o.guard) (ho:o.op=.alloc et) (hd:o.dst=some t)
 (r:∀ b,zm C T d ops rest ((t,.raw (.ptr b 0))::Γ) ((.ptr b 0,.box es)::L) Q):zm C T d ops (o::rest) Γ L Q:=by
 refine zfa hw (nf (by rw [ho]; rfl)) λz fr h s=>?_;have ha:aop T fr.op h o.op=some (.val (.ptr h.next 0) (h.push (.arr zv.cells false))):=by rw [ho]; simp only [aop,zfW,hz]
 refine ⟨_,_,z,_,_,ha,nfo (by rw [ho]; rfl),.refl _, ?_,r h.next⟩;rw [hd,zaL];refine (s.pushOwn (v:=.ptr h.next 0) (ob:=.box es) _ rfl ?_).set (by simp only [TE.ok]);exact ⟨h.next,zv.cells,rfl,by rw [za.get_push,if_pos rfl],hes z,h1⟩
theorem zwY {A:Type} {R:Rep A} {et:TypeId} {x:Operand} {a:A} {es:List TE} (hc:Cells R a es) (hw:Want ops Γ true o.guard) (ho:o.op=.box et x) (hd:o.dst=some t) (hx:Opd Γ x (.val R a))
 (r:∀ b,zm C T d ops rest ((t,.raw (.ptr b 0))::Γ) ((.ptr b 0,.box es)::L) Q):zm C T d ops (o::rest) Γ L Q:=by
 refine zfa hw (nf (by rw [ho]; rfl)) λz fr h s=>?_;have hv:=hx.val s.fr;have h1:=R.ones _ _ _ hv.rel;have ha:aop T fr.op h o.op=some (.val (.ptr h.next 0) (h.push (.arr (fr.op x).cells false))):=by
  rw [ho];simp only [aop,zjB];split
  . rename_i q; rw [q] at h1; simp [ze.cells,ze.one] at h1
  . rfl
 refine ⟨_,_,z,_,_,ha,nfo (by rw [ho]; rfl),.refl _, ?_,r h.next⟩;rw [hd,zaL];refine (s.pushOwn (v:=.ptr h.next 0) (ob:=.box es) _ rfl ?_).set (by simp only [TE.ok]);exact ⟨h.next,_,rfl,by rw [za.get_push,if_pos rfl],(hc _ _).1 hv.rel,h1⟩
theorem zyk {A:Type} {R:Rep A} {et:TypeId} {x:Operand} {a:A} (hw:Want ops Γ true o.guard) (ho:o.op=.box et x) (hd:o.dst=some t) (hx:Opd Γ x (.val R a))
 (r:zm C T d ops rest ((t,.val (zS R) a)::Γ) L Q):zm C T d ops (o::rest) Γ L Q:=by
 refine zwV (nf (by rw [ho]; rfl)) (λ_ _ _ _=>nfo (by rw [ho]; rfl)) hw hd (λz fr h s=>?_) r;have hv:=hx.val s.fr;have h1:=R.ones _ _ _ hv.rel;refine ⟨.ptr h.next 0,h.push (.arr (fr.op x).cells false),z.add h.next (.arr (fr.op x).cells false), ?_,zib s.next_none,s.push _, ?_⟩
 . rw [ho];simp only [aop,zjB];split
   . rename_i q; rw [q] at h1; simp [ze.cells,ze.one] at h1
   . rfl
 . simp only [TE.ok];have hl:=R.len _ _ _ hv.rel;refine zf7 ⟨h.next,0,_,false,rfl,zgU,by omega, ?_⟩;rw [List.drop_zero,← hl,List.take_length];exact R.mono _ _ _ _ (zib s.next_none) hv.rel
theorem zdo {A:Type} {R:Rep A} {a:A} {es:List TE} {b:Nat} (k:Nat) (ts:List Nat) (hc:Cells R a es) {L':Own} (hk:L[k]?=some (.ptr b 0,.box es)) (hL:zdU L k=some L') (hts:zic Γ (.ptr b 0) ts):∀ z fr h,StZ C Γ L z fr h->∃ z',z.le z'/\StZ C (zfX ts (.val (zS R) a) Γ) L' z' fr h:=by
 intro z fr h s;have ho:=s.own.ok _ (List.mem_of_getElem? hk);simp only [Obj.ok] at ho;obtain ⟨b',cells,q,h2,h3,h4⟩:=ho;cases q;obtain ⟨o1,o2,o3⟩:=s.own.out _ (List.mem_of_getElem? hk) b (by simp [zeK,zh4]);have hle:z.le (z.add b (.arr cells false)):=zib o1;have s':=s.drop hL;have hne:∀ p∈L',∀ c,c∈zeK p->c≠b:=by
  intro p hp c hc e;subst e;have hp':=(List.Perm.flatMap_right zeK (zeu hk hL)).nodup_iff.2 s.own.nodup;have hp':(blks ((ze.ptr c 0,Obj.box es)::L')).Nodup:=hp';rw [zaa] at hp';exact (List.nodup_append.1 hp').2.2 c (by simp [zeK,zh4]) c (za3.2 ⟨p,hp,hc⟩) rfl
 have hr:=(hc z cells).2 h3;refine ⟨z.add b (.arr cells false),hle,{ zle:=s.zle.trans hle,sub:=?_,old:=?_,fr:=zev ?_ hts (s.fr.mono hle),own:=⟨λp hp=>Obj.ok_mono hle (λ_ _=>rfl) (s'.own.ok p hp),λp hp c hc=>?_,s'.own.nodup⟩,chg:=s.chg }⟩
 . intro c y hc;by_cases e:c=b
   . subst e; rw [zgU] at hc; cases hc; exact ⟨h2,o2⟩
   . rw [add_ne e] at hc; exact s.sub c y hc
 . intro c hc hB;rw [add_ne]
   . exact s.old c hc hB
   . intro e; subst e;rcases o3 with q | q
     . omega
     . exact hB q
 . simp only [TE.ok];have hl:=R.len _ _ _ hr;refine zf7 ⟨b,0,cells,false,rfl,zgU,by omega, ?_⟩;rw [List.drop_zero,← hl,List.take_length];exact R.mono _ _ _ _ hle hr
 . obtain ⟨q1,q2,q3⟩:=s'.own.out p hp c hc;exact ⟨by rw [add_ne (hne p hp c hc)]; exact q1,q2,q3⟩
theorem zuW {et:TypeId} {x:Operand} {b q:Nat} {es:List TE} {e:TE} (k:Nat) (hls:Listed d ops rest) (hag:zdR T et=some false) (he:es[q]?=some e) (hw:Want ops Γ true o.guard) (ho:o.op=.load et x) (hd:o.dst=some t) (hx:Opd Γ x (.raw (.ptr b q))) (hk:L[k]?=some (.ptr b 0,.box es))
 (r:zm C T d ops rest ((t,e)::Γ) L Q):zm C T d ops (o::rest) Γ L Q:=by
 refine zfu (.l hls (by rw [ho]; rfl) (by rw [ho]; rfl)) (λz fr h s=>by
  rw [show foot fr.op o=⟨zL (fr.op x),false,[],false⟩ by unfold foot; rw [ho]];exact ⟨λb' hb=>zh8 s hk rfl b' (by simpa [zL,hx.raw s.fr] using hb),λb hb=>(nomatch hb)⟩) hw hd (λz fr h s=>?_) r
 have hob:=s.own.ok _ (List.mem_of_getElem? hk);simp only [Obj.ok] at hob;obtain ⟨b',cells,q',h2,h3,h4⟩:=hob;cases q';obtain ⟨v,h5,h6⟩:=zjo h3 he;refine ⟨v, ?_,h6⟩;rw [ho];simp only [aop,hx.raw s.fr,aload,h2,Go.Ai.apart,hag,h5,zW,Option.map]
theorem zsS {A:Type} {R:Rep A} {a:A} {et:TypeId} {x:Operand} {b:Nat} {es:List TE} (k:Nat) (hls:Listed d ops rest) (hu:Und T et R) (hc:Cells R a es) (hw:Want ops Γ true o.guard) (ho:o.op=.load et x) (hd:o.dst=some t) (hx:Opd Γ x (.raw (.ptr b 0))) (hk:L[k]?=some (.ptr b 0,.box es))
 (r:zm C T d ops rest ((t,.val R a)::Γ) L Q):zm C T d ops (o::rest) Γ L Q:=by
 refine zfu (.l hls (by rw [ho]; rfl) (by rw [ho]; rfl)) (λz fr h s=>by
  rw [show foot fr.op o=⟨zL (fr.op x),false,[],false⟩ by unfold foot; rw [ho]];exact ⟨λb' hb=>zh8 s hk rfl b' (by simpa [zL,hx.raw s.fr] using hb),λb hb=>(nomatch hb)⟩) hw hd (λz fr h s=>?_) r
 have hob:=s.own.ok _ (List.mem_of_getElem? hk);simp only [Obj.ok] at hob;obtain ⟨b',cells,q',h2,h3,h4⟩:=hob;cases q';have hr:=(hc z cells).2 h3;have hl:=R.len _ _ _ hr;obtain ⟨v,h5,h6⟩:=zfb (off:=0) (cells:=cells) hu.sz hu.agg (by omega) (by rw [List.drop_zero,← hl,List.take_length]; exact hr);refine ⟨v, ?_,by simp only [TE.ok]; exact h6⟩;rw [ho];simp only [aop,hx.raw s.fr,aload,h2,h5,zW,Option.map]
theorem zla {cells:List ze} {q:Nat} {v:ze} (h:q<cells.length):splice cells q [v]=cells.set q v:=by
 apply List.ext_getElem?;intro i;unfold splice;rw [List.append_assoc,List.getElem?_append,List.getElem?_set,List.length_take,Nat.min_eq_left (by omega)];by_cases h1:i<q
 . rw [if_pos h1,if_neg (by omega),List.getElem?_take,if_pos h1]
 . rw [if_neg h1];by_cases h2:q=i
   . subst h2; rw [if_pos rfl,if_pos h]; simp
   . rw [if_neg h2,List.getElem?_append_right (by simp; omega),List.getElem?_drop];congr 1; simp; omega
theorem zjp {A:Type} {R:Rep A} {a:A} {et:TypeId} {x y:Operand} {b q:Nat} {es:List TE} (k:Nat) (hsz:szT T et=some 1) (hk:L[k]?=some (.ptr b 0,.box es)) (hq:q<es.length) (hw:Want ops Γ true o.guard) (ho:o.op=.store et x y) (hd:o.dst=none) (hx:Opd Γ x (.raw (.ptr b q))) (hy:Opd Γ y (.val R a)) (hR:R.agg=false)
 {L':Own} (hL:zfw L k (.ptr b 0,.box (es.set q (.val R a)))=some L') (r:zm C T d ops rest Γ L' Q):zm C T d ops (o::rest) Γ L Q:=by
 refine zi4 (.w (by rw [ho]; rfl) (λt a q=>by rw [ho] at q; cases q) (by rw [ho]; rfl) (λq=>by rw [ho] at q; cases q)) (λz fr h s=>by
  rw [show foot fr.op o=⟨[],false,zL (fr.op x),false⟩ by unfold foot; rw [ho]];exact ⟨λb hb=>(nomatch hb),λb' hb=>zfc s hk rfl b' (by simpa [zL,hx.raw s.fr] using hb)⟩) hw hd (λz fr h s=>?_) r
 have hob:=s.own.ok _ (List.mem_of_getElem? hk);simp only [Obj.ok] at hob;obtain ⟨b',cells,q',h2,h3,h4⟩:=hob;cases q';have hv:=hy.val s.fr;have h1:=R.one hR;have hcs:(fr.op y).cells=[fr.op y]:=by
  have:=hv.agg;rw [hR] at this;cases e:fr.op y<;>rw [e] at this<;>simp_all [ze.cells,ze.isAgg]
 have hon:=R.ones _ _ _ hv.rel;rw [hcs] at hon;have hlt:q<cells.length:=by rw [zbE h3]; exact hq
 refine ⟨.tuple [],h.set b (.arr (cells.set q (fr.op y)) false), ?_,s.upd hk rfl rfl _ ?_ hL⟩
 . rw [ho];simp only [aop,hx.raw s.fr,astore,h2,hsz,hcs,List.length_singleton];rw [if_pos (by exact ⟨by trivial,by omega,hon⟩),zla hlt];rfl
 . refine ⟨b,_,rfl,by rw [za.get_set,if_pos rfl],zgX h3 (by simp only [TE.ok]; exact hv), ?_⟩;rw [List.all_eq_true] at h4 ⊢;intro c hc;rcases List.mem_or_eq_of_mem_set hc with q | rfl
   . exact h4 c q
   . simpa using hon
theorem zqR {A:Type} {R:Rep A} {a:A} {et:TypeId} {x y:Operand} {b:Nat} {es es':List TE} (k:Nat) (hu:Und T et R) (hk:L[k]?=some (.ptr b 0,.box es)) (hc:Cells R a es') (hl:es'.length=es.length) (hw:Want ops Γ true o.guard) (ho:o.op=.store et x y) (hd:o.dst=none) (hx:Opd Γ x (.raw (.ptr b 0))) (hy:Opd Γ y (.val R a))
 {L':Own} (hL:zfw L k (.ptr b 0,.box es')=some L') (r:zm C T d ops rest Γ L' Q):zm C T d ops (o::rest) Γ L Q:=by
 refine zi4 (.w (by rw [ho]; rfl) (λt a q=>by rw [ho] at q; cases q) (by rw [ho]; rfl) (λq=>by rw [ho] at q; cases q)) (λz fr h s=>by
  rw [show foot fr.op o=⟨[],false,zL (fr.op x),false⟩ by unfold foot; rw [ho]];exact ⟨λb hb=>(nomatch hb),λb' hb=>zfc s hk rfl b' (by simpa [zL,hx.raw s.fr] using hb)⟩) hw hd (λz fr h s=>?_) r
 have hob:=s.own.ok _ (List.mem_of_getElem? hk);simp only [Obj.ok] at hob;obtain ⟨b',cells,q',h2,h3,h4⟩:=hob;cases q';have hv:=hy.val s.fr;have hlen:=R.len _ _ _ hv.rel;have hok:=(hc _ _).1 hv.rel;have hle:=zbE hok;have hlc:=zbE h3;have e:splice cells 0 (fr.op y).cells=(fr.op y).cells:=by
  unfold splice;rw [List.take_zero,Nat.zero_add,List.drop_eq_nil_of_le (by omega)]; simp
 refine ⟨.tuple [],h.set b (.arr (fr.op y).cells false), ?_,s.upd hk rfl rfl _ ?_ hL⟩
 . rw [ho];simp only [aop,hx.raw s.fr,astore,h2,hu.sz];rw [if_pos ⟨hlen,by omega,R.ones _ _ _ hv.rel⟩,e];rfl
 . exact ⟨b,_,rfl,by rw [za.get_set,if_pos rfl],hok,R.ones _ _ _ hv.rel⟩
theorem zhG {z:Store}:∀ {es:List TE} {vs:List ze} {off n:Nat},zA z es vs->zA z ((es.drop off).take n) ((vs.drop off).take n)
 | es,vs,off,n,h=>by
  have hd:∀ {off:Nat} {es:List TE} {vs:List ze},zA z es vs->zA z (es.drop off) (vs.drop off):=by
   intro off;induction off with
   | zero=>intro es vs h; simpa using h
   | succ off ih=>
    intro es vs h;cases es with
    | nil=>simp only [zA] at h; subst h; simp [zA]
    | cons e es=>
     simp only [zA] at h;obtain ⟨v,vs',rfl,_,h2⟩:=h;exact ih h2
  have ht:∀ {n:Nat} {es:List TE} {vs:List ze},zA z es vs->zA z (es.take n) (vs.take n):=by
   intro n;induction n with
   | zero=>intro es vs h; simp [zA]
   | succ n ih=>
    intro es vs h;cases es with
    | nil=>simp only [zA] at h; subst h; simp [zA]
    | cons e es=>
     simp only [zA] at h;obtain ⟨v,vs',rfl,h1,h2⟩:=h;simp only [List.take_succ_cons,zA];exact ⟨v,_,rfl,h1,ih h2⟩
  exact ht (hd h)
theorem zjq {A:Type} {R:Rep A} {a:A} {et:TypeId} {x:Operand} {b off:Nat} {es:List TE} (k:Nat) (hls:Listed d ops rest) (hu:Und T et R) (hc:Cells R a ((es.drop off).take R.sz)) (hle:off+R.sz<=es.length) (hw:Want ops Γ true o.guard) (ho:o.op=.load et x) (hd:o.dst=some t) (hx:Opd Γ x (.raw (.ptr b off))) (hk:L[k]?=some (.ptr b 0,.box es))
 (r:zm C T d ops rest ((t,.val R a)::Γ) L Q):zm C T d ops (o::rest) Γ L Q:=by
 refine zfu (.l hls (by rw [ho]; rfl) (by rw [ho]; rfl)) (λz fr h s=>by
  rw [show foot fr.op o=⟨zL (fr.op x),false,[],false⟩ by unfold foot; rw [ho]];exact ⟨λb' hb=>zh8 s hk rfl b' (by simpa [zL,hx.raw s.fr] using hb),λb hb=>(nomatch hb)⟩) hw hd (λz fr h s=>?_) r
 have hob:=s.own.ok _ (List.mem_of_getElem? hk);simp only [Obj.ok] at hob;obtain ⟨b',cells,q',h2,h3,h4⟩:=hob;cases q';have hlc:=zbE h3;have hr:=(hc z _).2 (zhG (off:=off) (n:=R.sz) h3);obtain ⟨v,h5,h6⟩:=zfb (off:=off) (cells:=cells) hu.sz hu.agg (by omega) hr;refine ⟨v, ?_,by simp only [TE.ok]; exact h6⟩;rw [ho];simp only [aop,hx.raw s.fr,aload,h2,h5,zW,Option.map]
theorem zmZ {z:Store} {es fs:List TE} {vs us:List ze} {off:Nat} (h:zA z es vs) (hf:zA z fs us) (hle:off+fs.length<=es.length):zA z (es.take off++fs++es.drop (off+fs.length)) (splice vs off us):=by
 have h1:=zhG (off:=0) (n:=off) h;have h2:=zhG (off:=off+fs.length) (n:=es.length) h;have l1:=zbE h;have l2:=zbE hf;rw [List.drop_zero,List.drop_zero] at h1;rw [List.take_of_length_le (by rw [List.length_drop]; omega),List.take_of_length_le (by rw [List.length_drop]; omega)] at h2;unfold splice;rw [l2];have a1:=zd9.2 ⟨_,_,rfl,h1,hf⟩;exact zd9.2 ⟨_,_,rfl,a1,h2⟩
theorem zf8 {A:Type} {R:Rep A} {a:A} {et:TypeId} {x y:Operand} {b off:Nat} {es es':List TE} (k:Nat) (hu:Und T et R) (hk:L[k]?=some (.ptr b 0,.box es)) (hc:Cells R a es') (hle:off+es'.length<=es.length) (hw:Want ops Γ true o.guard) (ho:o.op=.store et x y) (hd:o.dst=none) (hx:Opd Γ x (.raw (.ptr b off))) (hy:Opd Γ y (.val R a))
 {L':Own} (hL:zfw L k (.ptr b 0,.box (es.take off++es'++es.drop (off+es'.length)))=some L') (r:zm C T d ops rest Γ L' Q):zm C T d ops (o::rest) Γ L Q:=by
 refine zi4 (.w (by rw [ho]; rfl) (λt a q=>by rw [ho] at q; cases q) (by rw [ho]; rfl) (λq=>by rw [ho] at q; cases q)) (λz fr h s=>by
  rw [show foot fr.op o=⟨[],false,zL (fr.op x),false⟩ by unfold foot; rw [ho]];exact ⟨λb hb=>(nomatch hb),λb' hb=>zfc s hk rfl b' (by simpa [zL,hx.raw s.fr] using hb)⟩) hw hd (λz fr h s=>?_) r
 have hob:=s.own.ok _ (List.mem_of_getElem? hk);simp only [Obj.ok] at hob;obtain ⟨b',cells,q',h2,h3,h4⟩:=hob;cases q';have hv:=hy.val s.fr;have hlen:=R.len _ _ _ hv.rel;have hok:=(hc _ _).1 hv.rel;have hle':=zbE hok;have hlc:=zbE h3;have hones:=R.ones _ _ _ hv.rel;refine ⟨.tuple [],h.set b (.arr (splice cells off (fr.op y).cells) false), ?_,s.upd hk rfl rfl _ ?_ hL⟩
 . rw [ho];simp only [aop,hx.raw s.fr,astore,h2,hu.sz];rw [if_pos ⟨hlen,by omega,hones⟩];rfl
 . refine ⟨b,_,rfl,by rw [za.get_set,if_pos rfl],zmZ h3 hok hle, ?_⟩;unfold splice;rw [List.all_append,List.all_append,hones,Bool.and_true,Bool.and_eq_true];rw [List.all_eq_true] at h4;exact ⟨List.all_eq_true.2 λc hc=>h4 c (List.mem_of_mem_take hc),List.all_eq_true.2 λc hc=>h4 c (List.mem_of_mem_drop hc)⟩
end
end Go.Ai.Sx
/- Symbolic runs of the abstract interpreter: calls and code. -/
namespace Go.Ai.Sx
inductive RE:Type 1 where
 | val {A:Type} (R:Rep A) (y:A)
 | row {A:Type} (R:Rep A) (ys:List A)
def tes:List RE->List ze->List TE
 | .val R y::rs,_::us=>.val R y::tes rs us
 | .row _ _::rs,u::us=>.raw u::tes rs us
 | _,_=>[]
def owns:List RE->List ze->Own
 | .val _ _::rs,_::us=>owns rs us
 | .row R ys::rs,u::us=>(u,.row R ys)::owns rs us
 | _,_=>[]
def Fun (T:Tab) (g:FuncId) (as:List TE) (rs:List RE):Prop:=
 ∀ z h vs,z.Sub h->h.wm<=h.next->zA z as vs->zkD T g vs h λr h'=>∃ us z',r=.ret (packed us)/\us.length=rs.length/\Quiet h h'/\z.le z'/\z'.Sub h'/\(∀ b,b<h.next->z' b=z b)/\zA z' (tes rs us) us/\zgL ⟨z,h,[]⟩ z' h' (owns rs us)
def zn3:List TE->TE
 | [e]=>e
 | es=>.tup es
def RQ:List RE->Own->(List TE->Own->Prop)->Prop
 | [],L,k=>k [] L
 | .val R y::rs,L,k=>RQ rs L λes L'=>k (.val R y::es) L'
 | .row R ys::rs,L,k=>∀ v,RQ rs L λes L'=>k (.raw v::es) ((v,.row R ys)::L')
theorem RQ.at:∀ {rs:List RE} {us:List ze} {L:Own} {k:List TE->Own->Prop},us.length=rs.length->RQ rs L k->k (tes rs us) (owns rs us++L)
 | [],[],L,k,_,h=>h
 | .val R y::rs,u::us,L,k,hl,h=>RQ.at (rs:=rs) (us:=us) (k:=λes L'=>k (.val R y::es) L') (by simpa using hl) h
 | .row R ys::rs,u::us,L,k,hl,h=>RQ.at (rs:=rs) (us:=us) (k:=λes L'=>k (.raw u::es) ((u,.row R ys)::L')) (by simpa using hl) (h u)
 | [],_::_,_,_,hl,_=>by simp at hl
 | _::_,[],_,_,hl,_=>by simp at hl
theorem zj1 {z:Store} {rs:List RE} {us:List ze} (hl:us.length=rs.length) (h:zA z (tes rs us) us):(zn3 (tes rs us)).ok z (packed us):=by
 have hlen:(tes rs us).length=us.length:=(zbE h).symm
 match us,hl with
 | [],_=>
  have:tes rs []=[]:=List.length_eq_zero_iff.1 (by simpa using hlen);rw [this] at h ⊢;simp only [zn3,TE.ok];exact ⟨[],rfl,h⟩
 | [u],_=>
  obtain ⟨e,he⟩:=List.length_eq_one_iff.1 hlen;rw [he] at h ⊢;simp only [zA] at h;obtain ⟨v,vs,q,h1,rfl⟩:=h;cases q;exact h1
 | u::u'::us,_=>
  have:∃ e e' es,tes rs (u::u'::us)=e::e'::es:=by
   match htes:tes rs (u::u'::us),hlen with
   | e::e'::es,_=>exact ⟨e,e',es,rfl⟩
   | [_],hlen=>simp at hlen
   | [],hlen=>simp at hlen
  obtain ⟨e,e',es,he⟩:=this;rw [he] at h ⊢;simp only [zn3,TE.ok];exact ⟨_,rfl,h⟩
section
variable {C:Ctx} {T:Tab} {d:Option (List Nat)} {ops rest:List Oper} {Γ:Env} {L:Own} {Q:zi->za->Prop} {P:zaH->zi->za->Prop} {o:Oper} {t:Nat} {z:Store} {fr:zi} {h:za}
inductive Opds (Γ:Env):List Operand->List TE->Prop where
 | n:Opds Γ [] []
 | c {x:Operand} {e:TE} {xs:List Operand} {es:List TE} (h:Opd Γ x e) (r:Opds Γ xs es):Opds Γ (x::xs) (e::es)
theorem Opds.ok {xs:List Operand} {es:List TE} (q:Opds Γ xs es) (hf:zin z Γ fr):zA z es (xs.map fr.op):=by
 induction q with
 | n=>simp [zA]
 | c h _ ih=>simp only [zA,List.map]; exact ⟨_,_,rfl,h.ok hf,ih⟩
theorem StZ.after (s:StZ C Γ L z fr h) {h':za} {z':Store} {O:Own} (q:Quiet h h') (hz:z.le z') (hs:z'.Sub h') (hold:∀ b,b<h.next->z' b=z b) (ho:zgL ⟨z,h,[]⟩ z' h' O):StZ C Γ (O++L) z' fr h':=by
 refine { zle:=s.zle.trans hz,sub:=hs,old:=λb hb hB=>?_,fr:=s.fr.mono hz,own:=⟨?_, ?_, ?_⟩,chg:=⟨Nat.le_trans s.chg.next q.next,λb hb hB=>?_,λm m1 m2 m3=>?_,q.ok s.chg.ok⟩ }
 . rw [hold b (Nat.lt_of_lt_of_le hb s.chg.next)]; exact s.old b hb hB
 . intro p hp;rcases List.mem_append.1 hp with hp | hp
   . exact ho.ok p hp
   . exact Obj.ok_mono hz (λb hb=>q.same b (s.own.out p hp b hb).2.1) (s.own.ok p hp)
 . intro p hp b hb;rcases List.mem_append.1 hp with hp | hp
   . obtain ⟨o1,o2,o3⟩:=ho.out p hp b hb;refine ⟨o1,o2,.inl ?_⟩;rcases o3 with q1 | q1
     . exact Nat.le_trans s.chg.next q1
     . cases q1
   . obtain ⟨o1,o2,o3⟩:=s.own.out p hp b hb;exact ⟨by rw [hold b o2]; exact o1,Nat.lt_of_lt_of_le o2 q.next,o3⟩
 . rw [show blks (O++L)=blks O++blks L by simp [blks]];refine List.nodup_append.2 ⟨ho.nodup,s.own.nodup,λa ha b hb e=>?_⟩;subst e;obtain ⟨p,hp,h1⟩:=za3.1 ha;obtain ⟨p',hp',h2⟩:=za3.1 hb;have:=(s.own.out p' hp' a h2).2.1;rcases (ho.out p hp a h1).2.2 with q1 | q1
   . have q1:h.next<=a:=q1;omega
   . cases q1
 . rw [q.same b (Nat.lt_of_lt_of_le hb s.chg.next)]; exact s.chg.same b hb hB
 . have h1:=s.chg.wm m m1 m2 m3;have h2:=q.wm;have h3:=s.chg.next;omega
theorem zj2 (hw:Want ops Γ true o.guard) (hd:o.dst=some t) {rs:List RE} (hq:RQ rs L λes L'=>zm C T d ops rest ((t,zn3 es)::Γ) L' Q)
    (H:∀ z fr h,StZ C Γ L z fr h->∃ f vs,aop T fr.op h o.op=some (.call f vs)/\∀ h1,h1.next=h.next->(∀ b,h1.get b=h.get b)->h1.wm<=h1.next->zja T f vs h1 λr h'=>∃ us z',r=.ret (packed us)/\us.length=rs.length/\Quiet h1 h'/\z.le z'/\z'.Sub h'/\(∀ b,b<h.next->z' b=z b)/\zA z' (tes rs us) us/\zgL ⟨z,h1,[]⟩ z' h' (owns rs us)) :
    zm C T d ops (o::rest) Γ L Q:=by
  cases d with
  | none=>
    intro fr h ⟨z,s⟩;obtain ⟨f,vs,ha,hcall⟩:=H z fr h s;simp only [wX,hw.ok s.fr,ha,hd,zaL];refine (hcall h rfl (λ_=>rfl) s.chg.ok).mono λr h' ⟨us,z',e1,hl,q,hz,hs,hold,hok,hown⟩=>⟨packed us,e1, ?_⟩;have s':=s.after q hz hs hold hown;exact hq.at hl _ _ ⟨z',s'.set (zj1 hl hok)⟩
  | some ol=>
    intro z fr h i done s hr hok hdn;obtain ⟨f,vs,ha,hcall⟩:=H z fr h s;have hi:ops[i]?=some o:=by have:=congrArg (λl=>l[0]?) hr; simpa using this
    have hlt:i<ops.length:=(List.getElem?_eq_some_iff.1 hi).1;have hr':ops.drop (i+1)=rest:=by have:=congrArg List.tail hr; simpa using this
    obtain ⟨c,fo,hoc,hcc,_⟩:=zcE ha;have n1:zcY o.op=false:=by rw [hoc]; simp only [zcY,hcc]
    have n2:zjW o.op=false:=by rw [hoc]; simp only [zjW,hcc]
    have sl:StZ C Γ L z fr (lay h h.next):=s.low (Nat.le_refl _) (λm _ m2 _=>Nat.le_trans m2 s.chg.next);refine zjU (hw.ok s.fr) ha s.chg.ok (zfR hi hdn (zgT hok i hlt) rfl ⟨λb hb=>(nomatch hb),λb hb=>(nomatch hb)⟩ (λq=>by rw [n1] at q; cases q) (λq=>by rw [n2] at q; cases q) (λ_=>rfl) (λt et y q=>by rw [hoc] at q; cases q) (λt a q=>by rw [hoc] at q; cases q) (λq=>by rw [hoc] at q; simp [zhF,hcc] at q)) ?_;refine (hcall (lay h h.next) rfl (λ_=>rfl) (Nat.le_refl _)).mono λr h' ⟨us,z',e1,hl,q,hz,hs,hold,hok',hown⟩=>⟨packed us,e1,q, ?_⟩;have s':=sl.after q hz hs hold hown;have s'':StZ C Γ (owns rs us++L) z' fr (lay h' (min h.wm h'.wm)):=s'.low (by have:=s'.chg.ok; omega) (λm m1 m2 m3=>by have h1:=s.chg.wm m m1 m2 m3; have h2:=s'.chg.wm m m1 m2 m3; omega);have hn:=hdn.next (z':=z') (h':=lay h' (min h.wm h'.wm)) (v:=packed us) hi hz q.next [(i,⟨[],true,[],false⟩)] (λp hp=>by
      rw [List.mem_singleton] at hp;subst hp;refine ⟨rfl,rfl,λ_=>rfl,λq=>(by rw [hoc] at q; cases q),λb hb=>(by simp at hb),λq=>?_⟩;unfold zes at q;rw [n1,hoc] at q;simp [znX,zmS,hcc] at q) (λhal=>(ziC hal ha).elim) (λr q=>by rw [hoc] at q; cases q) (λp _ t a q=>by rw [hoc] at q; cases q) (λp _ q=>by rw [hoc] at q; simp [zhF,hcc] at q) (λp _ t a y q=>by rw [hoc] at q; cases q)
    rw [hd,zaL] at hn ⊢;exact hq.at hl z' _ _ (i+1) _ (s''.set (zj1 hl hok')) hr' hok hn
theorem zwZ {c:Call} {x:Operand} {g:FuncId} {pre post:List ze} {as:List TE} {rs:List RE} {vs:List TE} (hf:Fun T g as rs) (hcst:T.consts.get g=none) (hw:Want ops Γ true o.guard) (ho:o.op=.call c) (hd:o.dst=some t) (hc:c.callee=.value x) (hx:Opd Γ x (.raw (.func (.func g) [] []))) (hvs:Opds Γ c.args.toList as)
 (hq:RQ rs L λes L'=>zm C T d ops rest ((t,zn3 es)::Γ) L' Q):zm C T d ops (o::rest) Γ L Q:=by
 refine zj2 hw hd hq λz fr h s=>⟨.func (.func g) [] [],c.args.toList.map fr.op,by rw [ho]; simp only [aop,zcD,hc,hx.raw s.fr],λh1 hn hg hwm=>?_⟩;have hsub:z.Sub h1:=λb y hb=>by rw [hg,hn]; exact s.sub b y hb
 refine zcS hcst ?_;rw [List.nil_append,List.append_nil];refine (hf z h1 _ hsub hwm (hvs.ok s.fr)).mono λr h' ⟨us,z',e1,hl,q,hz,hs,hold,hok,hown⟩=>⟨us,z',e1,hl,q,hz,hs, ?_,hok,hown⟩;rw [← hn]; exact hold
def Rep.flat {A:Type} (R:Rep A):Prop:=∀ z z' cs x,R.rel z cs x->R.rel z' cs x
theorem zie {k:IntKind}:Rep.flat (zh k):=λ_ _ _ _ h=>h
theorem zgY:Rep.flat zu:=λ_ _ _ _ h=>h
theorem zm0:Rep.flat zce:=λ_ _ _ _ h=>h
theorem zj3 {A B:Type} {R:Rep A} {S:Rep B} (h1:Rep.flat R) (h2:Rep.flat S):Rep.flat (zz R S):=λ_ _ _ _ ⟨c1,c2,e,a,b⟩=>⟨c1,c2,e,h1 _ _ _ _ a,h2 _ _ _ _ b⟩
inductive Flats:List RE->Prop where
 | n:Flats []
 | v {A:Type} {R:Rep A} {y:A} {rs:List RE} (h:Rep.flat R) (r:Flats rs):Flats (.val R y::rs)
 | r {A:Type} {R:Rep A} {ys:List A} {rs:List RE} (h:Rep.flat R) (r:Flats rs):Flats (.row R ys::rs)
theorem Flats.ok:∀ {rs:List RE} {us:List ze} {z z':Store},Flats rs->zA z' (tes rs us) us->zA z (tes rs us) us
 | [],us,_,_,_,h=>by simpa [tes,zA] using h
 | .val R y::rs,[],_,_,_,h=>by simp [tes,zA]
 | .row R y::rs,[],_,_,_,h=>by simp [tes,zA]
 | .val R y::rs,u::us,z,z',.v h1 h2,h=>by
  simp only [tes,zA,TE.ok] at h ⊢;obtain ⟨v,vs,e,h3,h4⟩:=h;cases e;exact ⟨u,us,rfl,⟨h1 _ _ _ _ h3.rel,h3.agg⟩,h2.ok h4⟩
 | .row R y::rs,u::us,z,z',.r h1 h2,h=>by
  simp only [tes,zA,TE.ok] at h ⊢;obtain ⟨v,vs,e,h3,h4⟩:=h;cases e;exact ⟨u,us,rfl,rfl,h2.ok h4⟩
theorem Flats.own:∀ {rs:List RE} {us:List ze} {z z':Store} {h:za} {p:ze×Obj},Flats rs->p∈owns rs us->p.2.ok z' h p.1->p.2.ok z h p.1
 | [],us,_,_,_,p,_,hp,_=>by simp [owns] at hp
 | .val R y::rs,[],_,_,_,p,_,hp,_=>by simp [owns] at hp
 | .row R y::rs,[],_,_,_,p,_,hp,_=>by simp [owns] at hp
 | .val R y::rs,u::us,z,z',h,p,.v h1 h2,hp,ho=>by simp only [owns] at hp; exact h2.own hp ho
 | .row R y::rs,u::us,z,z',h,p,.r h1 h2,hp,ho=>by
  simp only [owns] at hp;rcases List.mem_cons.1 hp with rfl | hp
  . simp only [Obj.ok] at ho ⊢;refine ⟨ho.1, ?_⟩;rcases ho.2 with q | ⟨b,off,cap,cells,q1,q2,q3,q4,q5⟩
    . exact .inl q
    . exact .inr ⟨b,off,cap,cells,q1,q2,q3,q4,λi x hx=>h1 _ _ _ _ (q5 i x hx)⟩
  . exact h2.own hp ho
inductive Lend (Γ:Env) (L:Own):Operand->TE->Prop where
 | o {x:Operand} {e:TE} (h:Opd Γ x e):Lend Γ L x e
 | r {A:Type} {R:Rep A} {xs:List A} {v:ze} {x:Operand} (k:Nat) (h:Opd Γ x (.raw v)) (hk:L[k]?=some (v,.row R xs)):Lend Γ L x (.val (zd R) xs)
 | b {A:Type} {R:Rep A} {a:A} {es:List TE} {b:Nat} {x:Operand} (k:Nat) (h:Opd Γ x (.raw (.ptr b 0))) (hk:L[k]?=some (.ptr b 0,.box es)) (hc:Cells R a es):Lend Γ L x (.val (zS R) a)
theorem zoN (h:za):(h.st).Sub h:=λb x hb=>⟨(za.st_lt hb).2,(za.st_lt hb).1⟩
theorem zuX (hs:z.Sub h):z.le h.st:=λb x hb=>za.st_of (hs b x hb).2 (hs b x hb).1
theorem Lend.ok {x:Operand} {e:TE} (q:Lend Γ L x e) (s:StZ C Γ L z fr h):e.ok h.st (fr.op x):=by
 have hle:=zuX s.sub;cases q with
 | o h=>exact TE.ok_mono hle (h.ok s.fr)
 | @r A R xs v _ k h hk=>
  simp only [TE.ok];rw [h.raw s.fr];have ho:=s.own.ok _ (List.mem_of_getElem? hk);simp only [Obj.ok] at ho;refine zbR ⟨ho.1, ?_⟩;rcases ho.2 with ⟨q,e⟩ | ⟨b,off,cap,cells,q,h2,h3,h4,h5⟩
  . exact .inl ⟨q,e⟩
  . subst q;have hb:=(s.own.out _ (List.mem_of_getElem? hk) b (by simp [zeK,zh4])).2.1;exact .inr (.inr ⟨b,off,cap,cells,false,rfl,za.st_of hb h2,h3,λc hc=>(h4 c hc).1,λi x hx=>R.mono _ _ _ _ hle (h5 i x hx)⟩)
 | @b A R a es b _ k h hk hc=>
  simp only [TE.ok];rw [h.raw s.fr];have ho:=s.own.ok _ (List.mem_of_getElem? hk);simp only [Obj.ok] at ho;obtain ⟨b',cells,q,h2,h3,h4⟩:=ho;cases q;have hb:=(s.own.out _ (List.mem_of_getElem? hk) b (by simp [zeK,zh4])).2.1;have hr:=(hc z cells).2 h3;have hl:=R.len _ _ _ hr;refine zf7 ⟨b,0,cells,false,rfl,za.st_of hb h2,by omega, ?_⟩;rw [List.drop_zero,← hl,List.take_length];exact R.mono _ _ _ _ hle hr
inductive Lends (Γ:Env) (L:Own):List Operand->List TE->Prop where
 | n:Lends Γ L [] []
 | c {x:Operand} {e:TE} {xs:List Operand} {es:List TE} (h:Lend Γ L x e) (r:Lends Γ L xs es):Lends Γ L (x::xs) (e::es)
theorem Lends.ok {xs:List Operand} {es:List TE} (q:Lends Γ L xs es) (s:StZ C Γ L z fr h):zA h.st es (xs.map fr.op):=by
 induction q with
 | n=>simp [zA]
 | c h _ ih=>simp only [zA,List.map]; exact ⟨_,_,rfl,h.ok s,ih⟩
theorem zqS {g:FuncId} {as:List TE} {rs:List RE} (hfl:Flats rs) {vs:List ze} {h1:za} (s:StZ C Γ L z fr h1) (hf:Fun T g as rs) (hok:zA h1.st as vs) (hwm:h1.wm<=h1.next) :
    zkD T g vs h1 λr h'=>∃ us z',r=.ret (packed us)/\us.length=rs.length/\Quiet h1 h'/\z.le z'/\z'.Sub h'/\(∀ b,b<h1.next->z' b=z b)/\zA z' (tes rs us) us/\zgL ⟨z,h1,[]⟩ z' h' (owns rs us):=by
  refine (hf h1.st h1 _ (zoN h1) hwm hok).mono λr h' ⟨us,z',e1,hl,q,hz,hs,hold,hok,hown⟩=>⟨us,z,e1,hl,q,.refl _, ?_,λ_ _=>rfl,hfl.ok hok, ?_⟩
  · intro b y hb;obtain ⟨h2,h3⟩:=s.sub b y hb;exact ⟨by rw [q.same b h3]; exact h2,Nat.lt_of_lt_of_le h3 q.next⟩
  · refine ⟨λp hp=>hfl.own hp (hown.ok p hp),λp hp b hb=>?_,hown.nodup⟩;obtain ⟨o1,o2,o3⟩:=hown.out p hp b hb;refine ⟨?_,o2,o3⟩;rcases o3 with q1 | q1
    · cases e:z b with
      | none=>rfl
      | some y=>
        have:=(s.sub b y e).2;have q1:h1.next<=b:=q1;omega
    · cases q1
theorem zgZ {c:Call} {x:Operand} {g:FuncId} {as:List TE} {rs:List RE} (hf:Fun T g as rs) (hfl:Flats rs) (hcst:T.consts.get g=none) (hw:Want ops Γ true o.guard) (ho:o.op=.call c) (hd:o.dst=some t) (hc:c.callee=.value x) (hx:Opd Γ x (.raw (.func (.func g) [] []))) (hvs:Lends Γ L c.args.toList as)
 (hq:RQ rs L λes L'=>zm C T d ops rest ((t,zn3 es)::Γ) L' Q):zm C T d ops (o::rest) Γ L Q:=by
 refine zj2 hw hd hq λz fr h s=>⟨.func (.func g) [] [],c.args.toList.map fr.op,by rw [ho]; simp only [aop,zcD,hc,hx.raw s.fr],λh1 hn hg hwm=>?_⟩;refine zcS hcst ?_;rw [List.nil_append,List.append_nil];have est:h1.st=h.st:=by funext b; unfold za.st; rw [hn,hg]
 have s1:StZ ⟨z,h1,[]⟩ Γ [] z fr h1:=
  { zle:=.refl _,sub:=λb y hb=>by rw [hn,hg]; exact s.sub b y hb,old:=λ_ _ _=>rfl,fr:=s.fr,own:=⟨λp hp=>(nomatch hp),λp hp=>(nomatch hp),List.nodup_nil⟩,chg:=⟨Nat.le_refl _,λ_ _ _=>rfl,λ_ m1 _ _=>m1,hwm⟩ }
 have:=zqS (T:=T) hfl s1 hf (by rw [est]; exact hvs.ok s) hwm;rw [hn] at this;exact this
theorem zw0 {c:Call} {x:Operand} {g:FuncId} {p:List ze->Option ze} {vs:List ze} {v:ze} {e:TE} (hcst:T.consts.get g=some p) (hp:p vs=some v) (he:∀ z,e.ok z v) (hw:Want ops Γ true o.guard) (ho:o.op=.call c) (hd:o.dst=some t) (hc:c.callee=.value x) (hx:Opd Γ x (.raw (.func (.func g) [] []))) (hvs:∀ z fr,zin z Γ fr->c.args.toList.map fr.op=vs)
    (r:zm C T d ops rest ((t,e)::Γ) L Q):zm C T d ops (o::rest) Γ L Q:=by
  cases d with
  | none=>
    intro fr h ⟨z,s⟩;have ha:aop T fr.op h o.op=some (.call (.func (.func g) [] []) vs):=by
      rw [ho]; simp only [aop,zcD,hc,hx.raw s.fr,hvs z fr s.fr]
    simp only [wX,hw.ok s.fr,ha,hd,zaL];exact zjV hcst (by simpa using hp) ⟨v,rfl,r _ _ ⟨z,s.set (he z)⟩⟩
  | some ol=>
    intro z fr h i done s hr hok hdn;have ha:aop T fr.op h o.op=some (.call (.func (.func g) [] []) vs):=by
      rw [ho]; simp only [aop,zcD,hc,hx.raw s.fr,hvs z fr s.fr]
    have hi:ops[i]?=some o:=by have:=congrArg (λl=>l[0]?) hr; simpa using this
    have hlt:i<ops.length:=(List.getElem?_eq_some_iff.1 hi).1;have hr':ops.drop (i+1)=rest:=by have:=congrArg List.tail hr; simpa using this
    have n1:zcY o.op=false:=by rw [ho]; simp only [zcY,hc]
    have n2:zjW o.op=false:=by rw [ho]; simp only [zjW,hc]
    refine zjU (hw.ok s.fr) ha s.chg.ok (zfR hi hdn (zgT hok i hlt) rfl ⟨λb hb=>(nomatch hb),λb hb=>(nomatch hb)⟩ (λq=>by rw [n1] at q; cases q) (λq=>by rw [n2] at q; cases q) (λ_=>rfl) (λt et y q=>by rw [ho] at q; cases q) (λt a q=>by rw [ho] at q; cases q) (λq=>by rw [ho] at q; simp [zhF,hc] at q)) ?_;refine zjV hcst (by simpa using hp) ⟨v,rfl,Quiet.refl _, ?_⟩;have e:({ lay h h.next with wm:=min h.wm (lay h h.next).wm }:za)=h:=zsK s.chg.ok;have hn:=hdn.next (z':=z) (h':=h) (v:=v) hi (.refl _) (Nat.le_refl _) [(i,⟨[],true,[],false⟩)] (λp hp=>by
      rw [List.mem_singleton] at hp;subst hp;refine ⟨rfl,rfl,λ_=>rfl,λq=>(by rw [ho] at q; cases q),λb hb=>(by simp at hb),λq=>?_⟩;unfold zes at q;rw [n1,ho] at q;simp [znX,zmS,hc] at q) (λhal=>(ziC hal ha).elim) (λr q=>by rw [ho] at q; cases q) (λp _ t a q=>by rw [ho] at q; cases q) (λp _ q=>by rw [ho] at q; simp [zhF,hc] at q) (λp _ t a y q=>by rw [ho] at q; cases q)
    rw [hd,zaL] at hn ⊢;have:=r z _ h (i+1) _ (s.set (he z)) hr' hok hn;exact e.symm▸this
def zy6 (id:Nat) (P:zaH->zi->za->Prop):zaH->zi->za->Prop
 | .exit i=>bif Nat.beq i id then P .normal else P (.exit i)
 | e=>P e
def zy7 (C:Ctx) (T:Tab) (b:Code) (P:zaH->zi->za->Prop):zaH->zi->za->Prop
 | .normal=>λfr h=>Run T b fr h P
 | e=>P e
theorem zpG {a b:Code} (r:zeL C T a Γ L (zy7 C T b P)):zeL C T (.seq a b) Γ L P:=λfr h s=>
 zuL ((r fr h s).mono λe _ _ q=>by cases e<;>exact q)
theorem zj4 {id:Nat} {c:Code} (r:zeL C T c Γ L (zy6 id P)):zeL C T (.block id c) Γ L P:=λfr h s=>
 zqz ((r fr h s).mono λe _ _ q=>by
  cases e with
  | exit i=>
   simp only [zy6] at q;simp only [zoG];by_cases e:i=id
   . subst e; rw [if_pos rfl]; simpa using q
   . have:Nat.beq i id=false:=by rw [Bool.eq_false_iff]; intro q; exact e (Nat.eq_of_beq_eq_true q)
     rw [this] at q; rw [if_neg e]; exact q
  | _=>exact q)
theorem zhh {id:Nat} {ops:Array Oper} (r:zm C T none ops.toList ops.toList Γ L (P .normal)):zeL C T (.region id ops false) Γ L P:=λfr h s=>zpz (zjm (r fr h s))
def zqT (ol:List Nat) (Γ:Env) (L:Own):Prop:=∀ r∈ze1 ol,∀ r'∈zcn ol,r≠r'->∃ (b o j:Nat) (p:ze×Obj),look Γ r=some (.raw (.ptr b o))/\L[j]?=some p/\b∈zeK p/\((∃ (b' o' j':Nat) (p':ze×Obj),look Γ r'=some (.raw (.ptr b' o'))/\L[j']?=some p'/\b'∈zeK p'/\j≠j')\/∃ (A:Type) (R:Rep A) (x:A),look Γ r'=some (.val (zS R) x))
theorem zqT.ok {ol:List Nat} (h:zqT ol Γ L) {z:Store} {fr:zi} {hh:za} (s:StZ C Γ L z fr hh):∀ r∈ze1 ol,∀ r'∈zcn ol,r≠r'->∀ x∈zL (fr.ev r),x∉zL (fr.ev r'):=by
 intro r hr r' hr' hne x hx hx';obtain ⟨b,o,j,p,h1,h2,h3,h4⟩:=h r hr r' hr' hne;have e:=s.fr _ _ h1;simp only [TE.ok] at e;rw [e] at hx;simp only [zL,List.mem_singleton] at hx;subst hx;rcases h4 with ⟨b',o',j',p',k1,k2,k3,k4⟩ | ⟨A,R,y,k1⟩
 . have e':=s.fr _ _ k1;simp only [TE.ok] at e';rw [e'] at hx';simp only [zL,List.mem_singleton] at hx';subst hx';exact k4 (zdm s.own.nodup h2 k2 h3 k3)
 . have e':=s.fr _ _ k1;simp only [TE.ok] at e';obtain ⟨b',off,cells,ro,q1,q2,_⟩:=zh6 e';rw [q1] at hx';simp only [zL,List.mem_singleton] at hx';subst hx';rw [(s.own.out _ (List.mem_of_getElem? h2) _ h3).1] at q2;cases q2
theorem zw1 {ol:List Nat} (h:ze1 ol=[]):zqT ol Γ L:=λr hr=>by rw [h] at hr; cases hr
inductive RAt (Γ:Env) (L:Own):Nat->Option Nat->Prop where
 | o {r b o j:Nat} {es:List TE} (hl:look Γ r=some (.raw (.ptr b o))) (hj:L[j]?=some (.ptr b 0,.box es)):RAt Γ L r (some j)
 | q {A:Type} {R:Rep A} {x:A} {r:Nat} (hl:look Γ r=some (.val (zS R) x)):RAt Γ L r none
inductive zwA (Γ:Env) (L:Own):List Nat->List (Option Nat)->Prop where
 | n:zwA Γ L [] []
 | c {r:Nat} {j:Option Nat} {rs:List Nat} {js:List (Option Nat)} (h:RAt Γ L r j) (t:zwA Γ L rs js):zwA Γ L (r::rs) (j::js)
theorem zwA.at {rs:List Nat} {js:List (Option Nat)} (h:zwA Γ L rs js):∀ {r:Nat},r∈rs->∃ (i:Nat) (j:Option Nat),rs[i]?=some r/\js[i]?=some j/\RAt Γ L r j:=by
 induction h with
 | n=>intro r hr; cases hr
 | @c r0 j0 _ _ h _ ih=>
  intro r hr;rcases List.mem_cons.1 hr with rfl | hr
  . exact ⟨0,j0,rfl,rfl,h⟩
  . obtain ⟨i,j,h1,h2,h3⟩:=ih hr;exact ⟨i+1,j,h1,h2,h3⟩
def neO (k:Nat):Option Nat->Bool
 | some k'=>!Nat.beq k k'
 | none=>true
def zuY:List (Option Nat)->Bool
 | []=>true
 | some k::js=>js.all (neO k)&&zuY js
 | none::js=>zuY js
theorem zn4:∀ {js:List (Option Nat)} {a b k:Nat},zuY js=true->a<b->js[a]?=some (some k)->js[b]?=some (some k)->False
 | j::js,0,b+1,k,h,_,h1,h2=>by
  cases h1;simp only [zuY,Bool.and_eq_true] at h;have:=List.all_eq_true.1 h.1 (some k) (List.mem_of_getElem? (i:=b) h2);simp [neO] at this
 | j::js,a+1,b+1,k,h,hlt,h1,h2=>by
  have h:zuY js=true:=by
   cases j with
   | none=>exact h
   | some q=>simp only [zuY,Bool.and_eq_true] at h; exact h.2
  exact zn4 (js:=js) (a:=a) (b:=b) h (by omega) h1 h2
 | [],_,_,_,_,_,h1,_=>by cases h1
 | _,_,0,_,_,hlt,_,_=>by omega
theorem rdists {ol rs:List Nat} {js:List (Option Nat)} (h:zcn ol=rs) (h2:∀ r∈ze1 ol,∀ j,RAt Γ L r j->j≠none) (ha:zwA Γ L rs js) (hj:zuY js=true):zqT ol Γ L:=λr hr r' hr' hne=>by
 subst h;obtain ⟨i,j,a1,a2,a3⟩:=ha.at (zmW hr);obtain ⟨i',j',b1,b2,b3⟩:=ha.at hr';have hii:i≠i':=λe=>by subst e; rw [a1] at b1; exact hne (Option.some.inj b1)
 have hjn:=h2 r hr j a3;cases a3 with
 | q _=>exact absurd rfl hjn
 | @o _ b o k es l1 l2=>
  refine ⟨b,o,k,_,l1,l2,by simp [zeK,zh4], ?_⟩;cases b3 with
  | q m=>exact .inr ⟨_,_,_,m⟩
  | @o _ b' o' k' es' m1 m2=>
   refine .inl ⟨b',o',k',_,m1,m2,by simp [zeK,zh4],λe=>?_⟩;subst e;rcases Nat.lt_or_gt_of_ne hii with q | q
   ·exact zn4 hj q a2 b2
   ·exact zn4 hj q b2 a2
theorem rown {r:Nat} {v:ze} (h:look Γ r=some (.raw v)):∀ j,RAt Γ L r j->j≠none:=λj q e=>by
 subst e;cases q with
 | q hl=>rw [h] at hl; cases hl
def zoO (Γ:Env):List Nat->Bool
 | []=>true
 | r::rs=>(match look Γ r with | some (.raw _)=>true | _=>false)&&zoO Γ rs
theorem rowns {ol:List Nat} (h:zoO Γ (ze1 ol)=true):∀ r∈ze1 ol,∀ j,RAt Γ L r j->j≠none:=by
 have key:∀ rs:List Nat,zoO Γ rs=true->∀ r∈rs,∃ v,look Γ r=some (.raw v):=by
  intro rs;induction rs with
  | nil=>intro _ r hr; cases hr
  | cons r0 rs ih=>
   intro q r hr;simp only [zoO,Bool.and_eq_true] at q;rcases List.mem_cons.1 hr with rfl | hr
   . have:=q.1;split at this
     . rename_i v e; exact ⟨v,e⟩
     . cases this
   . exact ih q.2 r hr
 intro r hr;obtain ⟨v,hv⟩:=key _ h r hr;exact rown hv
theorem RDO {p:Prop} (h:p:=by first | exact zw1 rfl | exact rdist1 rfl rfl):p:=h
theorem zao {id:Nat} {ops:Array Oper} (ol:List Nat) (hok:zmV ops.toList ol ops.toList.length=true) (r:zm C T (some ol) ops.toList ops.toList Γ L (P .normal)) (hdi:zqT ol Γ L:=by exact RDO):zeL C T (.region id ops true) Γ L P:=λfr h ⟨z,s⟩=>
 zsE (r z fr h 0 [] s rfl hok ⟨λ_ hp=>(nomatch hp),λj _ _ hj=>(nomatch hj),λ_ _ _ _ hj=>(nomatch hj),λ_ _ _ _ hp=>(nomatch hp),λ_ hp=>(nomatch hp),λ_ hp=>(nomatch hp),λr hr r' hr' hne _ _=>hdi.ok s r hr r' hr' hne⟩)
theorem zf9 (q:∀ fr h,St C Γ L fr h->P .normal fr h):zeL C T .skip Γ L P:=λfr h s=>zoE (q fr h s)
theorem zqU {id:Nat} (q:∀ fr h,St C Γ L fr h->P (.exit id) fr h):zeL C T (.exit id) Γ L P:=λfr h s=>zoF (q fr h s)
theorem zea (q:∀ fr h,St C Γ L fr h->P .ret fr h):zeL C T .ret Γ L P:=λfr h s=>zuK (q fr h s)
theorem zqV {c:Operand} {a b:Code} {q:Bool} (hc:Opd Γ c (.val zu q)) (r1:q=true->zeL C T a Γ L P) (r0:q=false->zeL C T b Γ L P):zeL C T (.cond c a b) Γ L P:=by
 intro fr h s;have s0:=s;obtain ⟨z,s⟩:=s;refine zsD (hc.bool s.fr) ?_;cases q with
 | true=>exact r1 rfl fr h s0
 | false=>exact r0 rfl fr h s0
theorem zn5 {c:Code} (hg:∀ l fr h,¬ P (.goto l) fr h) (r:zeL C T c Γ L P):zeL C T (.scope c) Γ L P:=λfr h s=>zqA (r fr h s) hg
def iter {σ τ:Type} (f:σ->Option (σ⊕τ)):Nat->σ->Option τ
 | 0,_=>none
 | n+1,s=>match f s with
  | some (.inl s')=>iter f n s'
  | some (.inr t)=>some t
  | none=>none
abbrev Sts:=Env×Own
def zuZ (C:Ctx) {σ τ G:Type} (I:σ->G->Sts) (X:τ->zaH×(G->Sts)) (r:σ⊕τ) (e:zaH) (fr:zi) (h:za):Prop:=
 match r with
 | .inl s=>e=.normal/\∃ g,St C (I s g).1 (I s g).2 fr h
 | .inr t=>e=(X t).1/\∃ g,St C ((X t).2 g).1 ((X t).2 g).2 fr h
theorem zw2 {σ τ G:Type} {c:Code} (I:σ->G->Sts) (X:τ->zaH×(G->Sts)) (f:σ->Option (σ⊕τ)) {n:Nat} {s0:σ} {t:τ} (g0:G) (hit:iter f n s0=some t) (hin:∀ fr h,St C Γ L fr h->St C (I s0 g0).1 (I s0 g0).2 fr h) (hne:∀ t,(X t).1≠.normal)
    (body:∀ s g r,f s=some r->zeL C T c (I s g).1 (I s g).2 (zuZ C I X r)) (out:∀ g,∀ fr h,St C ((X t).2 g).1 ((X t).2 g).2 fr h->P (X t).1 fr h):zeL C T (.loop c) Γ L P:=by
  suffices H:∀ n s0 g0,iter f n s0=some t->∀ fr h,St C (I s0 g0).1 (I s0 g0).2 fr h->Run T (.loop c) fr h P from λfr h s=>H n s0 g0 hit fr h (hin fr h s)
  clear hit hin n s0 g0;intro n;induction n with
  | zero=>intro s0 g0 hit; cases hit
  | succ n ih=>
    intro s0 g0 hit fr h s;simp only [iter] at hit;split at hit
    · rename_i s' hf;obtain ⟨m,e,fr',h',h1,rfl,g,h2⟩:=body s0 g0 _ hf fr h s;obtain ⟨k,e2,fr2,hh2,h3,h4⟩:=ih s' g hit fr' h' h2;refine ⟨max m k+1,e2,fr2,hh2, ?_,h4⟩;rw [aexec,zdI (Nat.le_max_left m k) _ _ _ _ h1];exact zdI (Nat.le_max_right m k) _ _ _ _ h3
    · rename_i t' hf;cases hit;obtain ⟨m,e,fr',h',h1,he,g,h2⟩:=body s0 g0 _ hf fr h s;refine ⟨m+1,e,fr',h', ?_,by rw [he]; exact out g fr' h' h2⟩;have:=hne t;rw [aexec,h1];rw [he];cases hx:(X t).1 with
      | normal=>exact absurd hx this
      | _=>rfl
    · cases hit
def zy8 (C:Ctx) {τ G:Type} (X:τ->zaH×(G->Sts)) (t:τ) (e:zaH) (fr:zi) (h:za):Prop:=e=(X t).1/\∃ g,St C ((X t).2 g).1 ((X t).2 g).2 fr h
theorem zyl {τ G:Type} {c:Code} (X:τ->zaH×(G->Sts)) {t:τ} (r:zeL C T c Γ L (zy8 C X t)) (out:∀ g,∀ fr h,St C ((X t).2 g).1 ((X t).2 g).2 fr h->P (X t).1 fr h):zeL C T c Γ L P:=λfr h s=>
 (r fr h s).mono λe fr' h' ⟨he,g,q⟩=>by rw [he]; exact out g fr' h' q
def entry:Nat->List TE->Env
 | _,[]=>[]
 | i,e::es=>(i,e)::entry (i+1) es
theorem argFrame_ev:∀ {vs:List ze} {i:Nat} {fr:zi} {t:Nat},t<i->(zcl i vs fr).ev t=fr.ev t
 | [],_,_,_,_=>rfl
 | v::vs,i,fr,t,h=>by
  simp only [zcl];rw [argFrame_ev (by omega),zi.ev_set,if_neg (by omega)]
theorem zjr:∀ {es:List TE} {vs:List ze} {i:Nat} {fr:zi},zA z es vs->zin z (entry i es) (zcl i vs fr)
 | [],_,_,_,_,t,e,h=>by cases h
 | a::es,_,i,fr,hok,t,e,h=>by
  simp only [zA] at hok;obtain ⟨v,vs,rfl,h1,h2⟩:=hok;simp only [entry,look] at h;simp only [zcl];cases hb:Nat.beq i t with
  | true=>
   have:=Nat.eq_of_beq_eq_true hb;subst this;rw [hb] at h;cases h;rw [argFrame_ev (by omega),zi.ev_set,if_pos rfl];exact h1
  | false=>rw [hb] at h; exact zjr h2 t e h
def zx0 (C:Ctx) (T:Tab) (res:List ResultVar) (rs:List RE) (e:zaH) (fr:zi) (h:za):Prop:=
 (e=.normal\/e=.ret)/\∃ us z,aresults T res fr h=some us/\us.length=rs.length/\C.z0.le z/\z.Sub h/\(∀ b,b<C.h0.next->b∉C.B0->z b=C.z0 b)/\zA z (tes rs us) us/\zgL C z h (owns rs us)/\Chg C h
theorem zlT {res:List ResultVar} {rs:List RE}:∀ l fr h,¬ zx0 C T res rs (.goto l) fr h:=λl fr h q=>by rcases q.1 with e | e<;>cases e
inductive Rets (T:Tab) (Γ:Env) (L:Own):List ResultVar->List RE->List Nat->Prop where
 | n:Rets T Γ L [] [] []
 | v {A:Type} {R:Rep A} {y:A} {t:Nat} {res:List ResultVar} {rs:List RE} {ks:List Nat} (h:look Γ t=some (.val R y)) (r:Rets T Γ L res rs ks):Rets T Γ L (.tmp t::res) (.val R y::rs) ks
 | r {A:Type} {R:Rep A} {ys:List A} {v:ze} {t:Nat} {res:List ResultVar} {rs:List RE} (k:Nat) {ks:List Nat} (h:look Γ t=some (.raw v)) (hk:L[k]?=some (v,.row R ys)) (r:Rets T Γ L res rs ks):Rets T Γ L (.tmp t::res) (.row R ys::rs) (k::ks)
 | c {A:Type} {R:Rep A} {y:A} {t:Nat} {ty:TypeId} {res:List ResultVar} {rs:List RE} {ks:List Nat} (hu:Und T ty R) (h:look Γ t=some (.val (zS R) y)) (r:Rets T Γ L res rs ks):Rets T Γ L (.cell t ty::res) (.val R y::rs) ks
 | b {A:Type} {R:Rep A} {y:A} {t b:Nat} {ty:TypeId} {es:List TE} {res:List ResultVar} {rs:List RE} (k:Nat) {ks:List Nat} (hu:Und T ty R) (hc:Cells R y es) (h:look Γ t=some (.raw (.ptr b 0))) (hk:L[k]?=some (.ptr b 0,.box es)) (r:Rets T Γ L res rs ks):Rets T Γ L (.cell t ty::res) (.val R y::rs) ks
 | a {A:Type} {R:Rep A} {ys:List A} {n:Nat} {t b:Nat} {ty et:TypeId} {res:List ResultVar} {rs:List RE} (k:Nat) {ks:List Nat} (har:Ar1 T ty et n R) (h:look Γ t=some (.raw (.ptr b 0))) (hk:L[k]?=some (.slice b 0 n R.sz (some n),.row R ys)) (r:Rets T Γ L res rs ks):Rets T Γ L (.cell t ty::res) (.val (zjn n R) ys::rs) ks
theorem Rets.ok {res:List ResultVar} {rs:List RE} {ks:List Nat} (q:Rets T Γ L res rs ks) (s:StZ C Γ L z fr h):∃ us,aresults T res fr h=some us/\us.length=rs.length/\zA z (tes rs us) us/\owns rs us=picks L ks:=by
 induction q with
 | n=>exact ⟨[],rfl,rfl,by simp [tes,zA],rfl⟩
 | @v A R y t res rs ks hl _ ih=>
  obtain ⟨us,h1,h2,h3,h4⟩:=ih;have:=s.fr _ _ hl;refine ⟨fr.ev t::us,by simp only [aresults,aresult,h1],by simp [h2], ?_,by simpa only [owns] using h4⟩;simp only [tes,zA];exact ⟨_,_,rfl,this,h3⟩
 | @r A R ys v t res rs k ks hl hk _ ih=>
  obtain ⟨us,h1,h2,h3,h4⟩:=ih;have:=s.fr _ _ hl;simp only [TE.ok] at this;refine ⟨fr.ev t::us,by simp only [aresults,aresult,h1],by simp [h2], ?_, ?_⟩
  . simp only [tes,zA,TE.ok];exact ⟨_,_,rfl,rfl,h3⟩
  . simp only [owns,picks,hk,h4,this]
 | @c A R y t ty res rs ks hu hl _ ih=>
  obtain ⟨us,h1,h2,h3,h4⟩:=ih;have hp:=s.fr _ _ hl;simp only [TE.ok] at hp;obtain ⟨b,off,cells,ro,e1,e2,e3,e4⟩:=zh6 hp;obtain ⟨v,h5,h6⟩:=zfb hu.sz hu.agg e3 e4;refine ⟨v::us,by simp only [aresults,aresult,aload,e1,(s.sub _ _ e2).1,h5,h1],by simp [h2], ?_,by simpa only [owns] using h4⟩;simp only [tes,zA,TE.ok];exact ⟨_,_,rfl,h6,h3⟩
 | @b A R y t b ty es res rs k ks hu hc hl hk _ ih=>
  obtain ⟨us,h1,h2,h3,h4⟩:=ih;have hp:=s.fr _ _ hl;simp only [TE.ok] at hp;have hob:=s.own.ok _ (List.mem_of_getElem? hk);simp only [Obj.ok] at hob;obtain ⟨b',cells,q',g2,g3,g4⟩:=hob;cases q';have hr:=(hc z cells).2 g3;have hlen:=R.len _ _ _ hr;obtain ⟨v,h5,h6⟩:=zfb (off:=0) (cells:=cells) hu.sz hu.agg (by omega) (by rw [List.drop_zero,← hlen,List.take_length]; exact hr);refine ⟨v::us,by simp only [aresults,aresult,aload,hp,g2,h5,h1],by simp [h2], ?_,by simpa only [owns] using h4⟩;simp only [tes,zA,TE.ok];exact ⟨_,_,rfl,h6,h3⟩
 | @a A R ys n t b ty et res rs k ks har hl hk _ ih=>
  obtain ⟨us,h1,h2,h3,h4⟩:=ih;have hp:=s.fr _ _ hl;simp only [TE.ok] at hp;have hr:=s.own.ok _ (List.mem_of_getElem? hk);simp only [Obj.ok] at hr;rcases hr.2 with ⟨q,_⟩ | ⟨b',off,cap,cells,q,g1,g2,g3,g4⟩
  . cases q
  . cases q;have hcl:0+ys.length*R.sz<=cells.length:=g2;have hl':((cells.drop 0).take (ys.length*R.sz)).length=ys.length*R.sz:=by simp; omega
    have hpp:∀ i x,ys[i]?=some x->R.rel z ((((cells.drop 0).take (ys.length*R.sz)).drop (i*R.sz)).take R.sz) x:=by
     intro i x hi;have h6:=zd8 (off:=0) (i:=i) (R:=R) (cells:=cells.take (ys.length*R.sz)) (by simp; omega) hi;rw [List.drop_zero,List.drop_take,List.take_take,Nat.min_eq_left]
     . have:=g4 i x hi; rwa [Nat.zero_add] at this
     . simp at h6; omega
    refine ⟨.agg ((cells.drop 0).take (ys.length*R.sz))::us, ?_,by simp [h2], ?_,by simpa only [owns] using h4⟩
    . simp only [aresults,aresult,aload,hp,g1,Go.Ai.apart,har.isagg,har.whole,h1];rw [if_pos (by omega)]
    . simp only [tes,zA,TE.ok];exact ⟨_,_,rfl,⟨⟨rfl,hl',ziE har.pos hl' hpp,hpp⟩,rfl⟩,h3⟩
theorem zcZ {e:zaH} {res:List ResultVar} {rs:List RE} {ks:List Nat} (he:e=.normal\/e=.ret) (q:Rets T Γ L res rs ks) (hn:ks.Nodup):∀ fr h,St C Γ L fr h->zx0 C T res rs e fr h:=by
 intro fr h ⟨z,s⟩;obtain ⟨us,h1,h2,h3,h4⟩:=q.ok s;obtain ⟨z',s'⟩:=(show St C Γ L fr h from ⟨z,s⟩);refine ⟨he,us,z,h1,h2,s.zle,s.sub,s.old,h3, ?_,s.chg⟩;rw [h4];refine ⟨λp hp=>?_,λp hp=>?_,zcf s.own.nodup hn⟩
 . obtain ⟨i,_,h2⟩:=zdA hp;exact s.own.ok p (List.mem_of_getElem? h2)
 . obtain ⟨i,_,h2⟩:=zdA hp;exact s.own.out p (List.mem_of_getElem? h2)
theorem zw3 {g:FuncId} {F:Func} {c:Code} {as:List TE} {rs:List RE} (hF:T.funcs.get g=some F) (hb:F.body=some c) (hn:Nat.blt F.ntmps as.length=false) (run:∀ C,C.B0=[]->zeL C T c (entry 0 as) [] (zx0 C T F.results.toList rs)):Fun T g as rs:=by
 intro z h vs hsub hwm hok;refine zlJ hF hb (by rw [zbE hok]; exact hn) ?_;have s0:StZ ⟨z,h,[]⟩ (entry 0 as) [] z (zcl 0 vs .leaf) h:=
  { zle:=.refl _,sub:=hsub,old:=λ_ _ _=>rfl,fr:=zjr hok,own:=⟨λp hp=>(nomatch hp),λp hp=>(nomatch hp),List.nodup_nil⟩,chg:=⟨Nat.le_refl _,λ_ _ _=>rfl,λ_ m1 _ _=>m1,hwm⟩ }
 refine (run ⟨z,h,[]⟩ rfl _ _ ⟨z,s0⟩).mono λe fr h' ⟨he,us,z',h1,h2,h3,h4,h5,h6,h7,h8⟩=>⟨he,us,h1,us,z',rfl,h2, ?_,h3,h4,λb hb=>h5 b hb (λq=>nomatch q),h6,h7⟩;exact ⟨h8.next,λb hb=>h8.same b hb (λq=>nomatch q),h8.wm _ (Nat.min_le_left _ _) (Nat.min_le_right _ _) (λ_ q=>nomatch q),λ_=>h8.ok⟩
end
end Go.Ai.Sx
/- Symbolic runs of the abstract interpreter: small steps for printed proofs; function values. -/
namespace Go.Ai.Sx
abbrev big:Nat:=18446744073709551616
theorem bnd {α β:Type} {m:Option α} {k:α->Option β} {y:β} (h:m.bind k=some y):∃ x,m=some x/\k x=some y:=Option.bind_eq_some_iff.1 h
theorem zzo {β:Type} {c:Bool} {a b:Option β} {y:β} (h:cond c a b=some y) (q:c=true):a=some y:=by rw [q] at h; exact h
theorem zzp {β:Type} {c:Bool} {a b:Option β} {y:β} (h:cond c a b=some y) (q:c=false):b=some y:=by rw [q] at h; exact h
def alt {α β γ:Type} (f:α->γ) (g:β->γ):α⊕β->γ
 | .inl a=>f a
 | .inr b=>g b
abbrev XT (τ:Type):Type 1:=τ->zaH×(List ze->Sts)
def zx1 {α β:Type} (f:XT α) (g:XT β):XT (α⊕β)
 | .inl a=>f a
 | .inr b=>g b
theorem zw4 {α β γ:Type} {f:α->Option γ} {g:β->Option γ} {a:α} {y:γ} (h:alt f g (.inl a)=some y):f a=some y:=h
theorem zw5 {α β γ:Type} {f:α->Option γ} {g:β->Option γ} {b:β} {y:γ} (h:alt f g (.inr b)=some y):g b=some y:=h
theorem gt1 {b:Bool} (h:b=true):(b==true)=true:=by rw [h]; rfl
theorem gt0 {b:Bool} (h:b=false):(b==true)=false:=by rw [h]; rfl
theorem gf1 {b:Bool} (h:b=true):(b==false)=false:=by rw [h]; rfl
theorem gf0 {b:Bool} (h:b=false):(b==false)=true:=by rw [h]; rfl
def zdJ (k:IntKind) (a b:Int):Option Int:=if b=0 then none else some (k.wrap (a.tdiv b))
theorem zsT {k:IntKind} {a b n:Int} (h:zdJ k a b=some n):Ar k a b .quo n:=by
 unfold zdJ at h;split at h
 . cases h
 . cases h; exact .quo (by assumption)
def zue (a b:Int):Option Int:=if b=0 then none else some (a.tmod b)
theorem zsU {a b n:Int} (h:zue a b=some n):b≠0/\n=a.tmod b:=by
 unfold zue at h;split at h
 . cases h
 . cases h; exact ⟨by assumption,rfl⟩
def zwB (k:IntKind) (a b:Int):Option Int:=if 0<=b then some (k.wrap (a*2 ^ (min b.toNat k.bits))) else none
theorem zsV {k:IntKind} {a b n:Int} (h:zwB k a b=some n):0<=b/\n=k.wrap (a*2 ^ (min b.toNat k.bits)):=by
 unfold zwB at h;split at h
 . cases h; exact ⟨by assumption,rfl⟩
 . cases h
def zlb (k:IntKind) (a b:Int):Option Int:=if 0<=b then some (a.fdiv (2 ^ (min b.toNat k.bits))) else none
theorem zsW {k:IntKind} {a b n:Int} (h:zlb k a b=some n):0<=b/\n=a.fdiv (2 ^ (min b.toNat k.bits)):=by
 unfold zlb at h;split at h
 . cases h; exact ⟨by assumption,rfl⟩
 . cases h
def slO {A:Type} (xs:List A) (i j:Int):Option (List A):=if 0<=i/\i<=j/\j<=zl xs then some ((xs.take j.toNat).drop i.toNat) else none
theorem zu0 {A:Type} {xs ys:List A} {i j:Int} (h:slO xs i j=some ys):(0<=i/\i<=j/\j<=zl xs)/\ys=(xs.take j.toNat).drop i.toNat:=by
 unfold slO at h;split at h
 . cases h; exact ⟨by assumption,rfl⟩
 . cases h
section
variable {C:Ctx} {T:Tab} {d:Option (List Nat)} {ops rest:List Oper} {Γ:Env} {L:Own} {Q:zi->za->Prop} {P:zaH->zi->za->Prop} {o:Oper} {t:Nat} {z:Store} {fr:zi} {h:za}
theorem zym {c x y:Operand} {e:TE} {b:Bool} (hb:b=true) (hw:Want ops Γ true o.guard) (ho:o.op=.pick c x y) (hd:o.dst=some t) (hc:Opd Γ c (.val zu b)) (hx:Opd Γ x e)
 (r:zm C T d ops rest ((t,e)::Γ) L Q):zm C T d ops (o::rest) Γ L Q:=by subst hb; exact zuO hw ho hd hc hx r
theorem zyn {c x y:Operand} {e:TE} {b:Bool} (hb:b=false) (hw:Want ops Γ true o.guard) (ho:o.op=.pick c x y) (hd:o.dst=some t) (hc:Opd Γ c (.val zu b)) (hy:Opd Γ y e)
 (r:zm C T d ops rest ((t,e)::Γ) L Q):zm C T d ops (o::rest) Γ L Q:=by subst hb; exact zuP hw ho hd hc hy r
theorem zw6 {u u':TypeId} {k:IntKind} {x y:Operand} {a b n:Int} (hn:zue a b=some n) (hw:Want ops Γ true o.guard) (ho:o.op=.binOp .rem u x y u') (hd:o.dst=some t) (hx:Opd Γ x (.val (zh k) a)) (hy:Opd Γ y (.val (zh k) b))
 (r:zm C T d ops rest ((t,.val (zh k) n)::Γ) L Q):zm C T d ops (o::rest) Γ L Q:=by
 obtain ⟨h1,rfl⟩:=zsU hn; exact zx8 hw ho hd hx hy h1 r
theorem zw7 {u u':TypeId} {k k':IntKind} {x y:Operand} {a b n:Int} (hn:zwB k a b=some n) (hw:Want ops Γ true o.guard) (ho:o.op=.binOp .shl u x y u') (hd:o.dst=some t) (hx:Opd Γ x (.val (zh k) a)) (hy:Opd Γ y (.val (zh k') b))
 (r:zm C T d ops rest ((t,.val (zh k) n)::Γ) L Q):zm C T d ops (o::rest) Γ L Q:=by
 obtain ⟨h1,rfl⟩:=zsV hn; exact zx9 hw ho hd hx hy h1 r
theorem zw8 {u u':TypeId} {k k':IntKind} {x y:Operand} {a b n:Int} (hn:zlb k a b=some n) (hw:Want ops Γ true o.guard) (ho:o.op=.binOp .shr u x y u') (hd:o.dst=some t) (hx:Opd Γ x (.val (zh k) a)) (hy:Opd Γ y (.val (zh k') b))
 (r:zm C T d ops rest ((t,.val (zh k) n)::Γ) L Q):zm C T d ops (o::rest) Γ L Q:=by
 obtain ⟨h1,rfl⟩:=zsW hn; exact zya hw ho hd hx hy h1 r
inductive Bnd (Γ:Env):Option Operand->Int->Int->Prop where
 | n {i:Int}:Bnd Γ none i i
 | s {y:Operand} {k:IntKind} {i j:Int} (h:Opd Γ y (.val (zh k) i)):Bnd Γ (some y) j i
theorem zyo {A:Type} {R:Rep A} {x:Operand} {lo hi:Option Operand} {xs ys:List A} {st et:TypeId} {i j:Int} (hsl:Sl T st et R) (hn:slO xs i j=some ys) (hw:Want ops Γ true o.guard) (ho:o.op=.slice st x lo hi none) (hd:o.dst=some t)
    (hx:Opd Γ x (.val (zd R) xs)) (hlo:Bnd Γ lo 0 i) (hhi:Bnd Γ hi (zl xs) j) (r:zm C T d ops rest ((t,.val (zd R) ys)::Γ) L Q):zm C T d ops (o::rest) Γ L Q:=by
  obtain ⟨h1,rfl⟩:=zu0 hn;cases hlo with
  | n=>
    cases hhi with
    | n=>exact zlR (kl:=.i64) (kh:=.i64) hsl h1 hw ho hd hx (.inl ⟨rfl,rfl⟩) (.inl ⟨rfl,rfl⟩) r
    | s h=>exact zlR (kl:=.i64) hsl h1 hw ho hd hx (.inl ⟨rfl,rfl⟩) (.inr ⟨_,rfl,h⟩) r
  | s h'=>
    cases hhi with
    | n=>exact zlR (kh:=.i64) hsl h1 hw ho hd hx (.inr ⟨_,rfl,h'⟩) (.inl ⟨rfl,rfl⟩) r
    | s h=>exact zlR hsl h1 hw ho hd hx (.inr ⟨_,rfl,h'⟩) (.inr ⟨_,rfl,h⟩) r
theorem zj5 {id:Nat} {b:Code} {P2:zaH->zi->za->Prop} (e:P (.exit id)=λfr h=>Run T b fr h P2) (r:zeL C T b Γ L P2):zeL C T (.exit id) Γ L P:=λfr h s=>zoF (by rw [e]; exact r fr h s)
theorem zw9 {b:Code} {P2:zaH->zi->za->Prop} (e:Q=λfr h=>Run T b fr h P2) (r:zeL C T b Γ L P2):zm C T d ops [] Γ L Q:=zfH λfr h s=>by rw [e]; exact r fr h s
theorem zj6 {b:Code} {P2:zaH->zi->za->Prop} (e:P .normal=λfr h=>Run T b fr h P2) (r:zeL C T b Γ L P2):zeL C T .skip Γ L P:=λfr h s=>zoE (by rw [e]; exact r fr h s)
theorem zjs {b:Code} {l:Nat} {P2:zaH->zi->za->Prop} (e:P .normal=λfr h=>Run T b fr h P2) (r:zeL C T b Γ L P2):zeL C T (.label l) Γ L P:=λfr h s=>zqy (by rw [e]; exact r fr h s)
abbrev gh (g:List ze) (i:Nat):ze:=g.getD i .undef
def zxa (T:Tab) (z:Store) (c:ze) (as:List TE) (rs:List RE):Prop:=
 ∃ g pre post,c=.func (.func g) pre post/\T.consts.get g=none/\∀ z1 h vs,z.le z1->z1.Sub h->h.wm<=h.next->zA z1 as vs ->
  zkD T g (pre++vs++post) h λr h'=>∃ us z',r=.ret (packed us)/\us.length=rs.length/\Quiet h h'/\z1.le z'/\z'.Sub h'/\(∀ b,b<h.next->z' b=z1 b)/\zA z' (tes rs us) us/\zgL ⟨z1,h,[]⟩ z' h' (owns rs us)
theorem zxa.mono {z z':Store} {c:ze} {as:List TE} {rs:List RE} (hz:z.le z') (f:zxa T z c as rs):zxa T z' c as rs:=
 let ⟨g,pre,post,h1,h2,h3⟩:=f; ⟨g,pre,post,h1,h2,λz1 h vs hl=>h3 z1 h vs (hz.trans hl)⟩
def rFn (T:Tab) (X Y:Type) (ins:X->List TE) (outs:Y->List RE):Rep (X->Option Y):=
 ⟨1,false,λz cs f=>∃ c,cs=[c]/\(c.one=true/\c.isAgg=false)/\∀ x y,f x=some y->zxa T z c (ins x) (outs y),λ_ _ _ h=>by obtain ⟨v,h,_⟩:=h; rw [h]; rfl,
  λ_ _ _ _ e h=>let ⟨c,h1,h2,h3⟩:=h; ⟨c,h1,h2,λx y q=>(h3 x y q).mono e⟩,λ_=>rfl,λ_ _ _ h=>by obtain ⟨v,h,e,_⟩:=h; rw [h]; simp [e.1]⟩
theorem zyp {T:Tab} {X Y:Type} {ins:X->List TE} {outs:Y->List RE} {z:Store}:(rFn T X Y ins outs).rel z [.nilfunc] λ_=>none:=⟨_,rfl,⟨rfl,rfl⟩,λ_ _ h=>(nomatch h)⟩
theorem zyq {X Y:Type} {ins:X->List TE} {outs:Y->List RE} {v:ze} {f:X->Option Y} (q:TV (rFn T X Y ins outs) z v f):∀ x y,f x=some y->zxa T z v (ins x) (outs y):=by
 obtain ⟨h1,h2⟩:=q;obtain ⟨w,h3,h4,h5⟩:=h1;cases v<;>simp_all [ze.isAgg,ze.cells,rFn]
theorem ziF {X Y:Type} {ins:X->List TE} {outs:Y->List RE} {c:Call} {p:Operand} {f:X->Option Y} {x:X} {y:Y} (hf:f x=some y) (hw:Want ops Γ true o.guard) (ho:o.op=.call c) (hd:o.dst=some t) (hc:c.callee=.value p) (hx:Opd Γ p (.val (rFn T X Y ins outs) f)) (hvs:Opds Γ c.args.toList (ins x))
 (hq:RQ (outs y) L λes L'=>zm C T d ops rest ((t,zn3 es)::Γ) L' Q):zm C T d ops (o::rest) Γ L Q:=by
 refine zj2 hw hd hq λz fr h s=>?_;obtain ⟨g,pre,post,e1,e2,e3⟩:=zyq (hx.val s.fr) x y hf;refine ⟨.func (.func g) pre post,c.args.toList.map fr.op,by rw [ho]; simp only [aop,zcD,hc,e1],λh1 hn hg hwm=>?_⟩;have hsub:z.Sub h1:=λb y hb=>by rw [hg,hn]; exact s.sub b y hb
 refine zcS e2 ?_;refine (e3 z h1 _ (.refl _) hsub hwm (hvs.ok s.fr)).mono λr h' ⟨us,z',e1,hl,q,hz,hs,hold,hok,hown⟩=>⟨us,z',e1,hl,q,hz,hs, ?_,hok,hown⟩;rw [← hn]; exact hold
theorem zb3 {es fs:List TE} {us vs:List ze} (h1:zA z es us) (h2:zA z fs vs):zA z (es++fs) (us++vs):=zd9.2 ⟨us,vs,rfl,h1,h2⟩
theorem zfx {X Y:Type} (ins:X->List TE) (outs:Y->List RE) {f:X->Option Y} {g:FuncId} {first captured:Array Operand} {ps cs:List TE} (hF:∀ x y,f x=some y->Fun T g (ps++ins x++cs) (outs y)) (hcst:T.consts.get g=none) (hw:Want ops Γ true o.guard) (ho:o.op=.makeFunc (.func g) first captured) (hd:o.dst=some t) (h1:Opds Γ first.toList ps) (h2:Opds Γ captured.toList cs)
 (r:zm C T d ops rest ((t,.val (rFn T X Y ins outs) f)::Γ) L Q):zm C T d ops (o::rest) Γ L Q:=by
 refine zam (by rw [ho]; rfl) hw hd (λz fr h s=>?_) r;refine ⟨.func (.func g) (first.toList.map fr.op) (captured.toList.map fr.op),by rw [ho]; rfl, ?_⟩;simp only [TE.ok];refine ⟨⟨_,rfl,⟨rfl,rfl⟩,λx y q=>⟨g,_,_,rfl,hcst,λz1 h' vs hl hs hwm hok=>?_⟩⟩,rfl⟩;exact hF x y q z1 h' _ hs hwm (zb3 (zb3 (zdl hl (h1.ok s.fr)) hok) (zdl hl (h2.ok s.fr)))
theorem zgJ {X Y:Type} {ins:X->List TE} {outs:Y->List RE} {f:X->Option Y} {g:FuncId} (hF:∀ x y,f x=some y->Fun T g (ins x) (outs y)) (hcst:T.consts.get g=none):∀ z,TV (rFn T X Y ins outs) z (.func (.func g) [] []) f:=λz=>
 ⟨⟨_,rfl,⟨rfl,rfl⟩,λx y q=>⟨g,[],[],rfl,hcst,λz1 h' vs hl hs hwm hok=>by rw [List.nil_append,List.append_nil]; exact hF x y q z1 h' _ hs hwm hok⟩⟩,rfl⟩
end
end Go.Ai.Sx
/- Symbolic runs of the abstract interpreter: arrays,rows held against nil. -/
namespace Go.Ai.Sx
section
variable {C:Ctx} {T:Tab} {d:Option (List Nat)} {ops rest:List Oper} {Γ:Env} {L:Own} {Q:zi->za->Prop} {P:zaH->zi->za->Prop} {o:Oper} {t:Nat} {z:Store} {fr:zi} {h:za}
theorem zarr {A:Type} {R:Rep A} {x:A} {n:Nat} {c zc:List ze} (h:∀ z,R.rel z c x) (hz:copies n c=zc):∀ z,(zjn n R).rel z zc (List.replicate n x):=by
 intro z;subst hz;have hl:=R.len _ _ _ (h z);have hp:∀ i y,(List.replicate n x)[i]?=some y->R.rel z (((copies n c).drop (i*R.sz)).take R.sz) y:=by
  intro i y hi;have h1:=(List.getElem?_eq_some_iff.1 hi).1;rw [List.length_replicate] at h1;rw [List.getElem?_replicate,if_pos h1] at hi;cases hi;rw [← hl,zgW _ h1]; exact h z
 refine ⟨List.length_replicate,by rw [zew,hl], ?_,hp⟩;rcases Nat.eq_zero_or_pos R.sz with q | q
 . have:copies n c=[]:=List.length_eq_zero_iff.1 (by rw [zew,hl,q,Nat.mul_zero]);rw [this]; rfl
 . exact ziE q (by rw [zew,hl,List.length_replicate]) hp
theorem zu1 {A:Type} {R:Rep A} {x y:Operand} {xs:List A} {at_ et:TypeId} {n:Nat} {k:IntKind} {i:Int} {a:A} (har:Ar1 T at_ et n R) (hi:idx xs i=some a) (hw:Want ops Γ true o.guard) (ho:o.op=.index at_ x y) (hd:o.dst=some t)
    (hx:Opd Γ x (.val (zjn n R) xs)) (hy:Opd Γ y (.val (zh k) i)) (r:zm C T d ops rest ((t,.val R a)::Γ) L Q):zm C T d ops (o::rest) Γ L Q:=by
  refine zam (by rw [ho]; rfl) hw hd (λz fr h s=>?_) r;obtain ⟨h0,h1,h2,h3⟩:=zfv hi;have hv:=hx.val s.fr;have hc:=hv.agg;cases hq:fr.op x with
  | agg cs=>
    rw [hq] at hv;obtain ⟨e1,e2,e3,e4⟩:=hv.rel;simp only [ze.cells] at e2 e3 e4;have hb:=zd8 (off:=0) (i:=i.toNat) (R:=R) (cells:=cs) (by rw [e1]; omega) h3;obtain ⟨u,h8,h9⟩:=zfb (cells:=cs) (off:=i.toNat*R.sz) har.sz har.agg (by omega) (e4 _ _ h3);refine ⟨u, ?_,by simp only [TE.ok]; exact h9⟩;rw [ho];simp only [aop,hq,hy.int s.fr,aindex,har.und,har.sz];rw [if_pos ⟨h0,by omega⟩,h8];rfl
  | _=>rw [hq] at hc; cases hc
theorem zlU {A:Type} {R:Rep A} {at_ et:TypeId} {n:Nat} {zc:List ze} {parts:Array (Nat×Operand)} {as:List A} (har:Ar1 T at_ et n R) (hz:ze0 T at_=some (.agg zc)) (hzl:zc.length=n*R.sz) (hw:Want ops Γ true o.guard) (ho:o.op=.build at_ parts) (hd:o.dst=some t) (he:Elts Γ R 0 parts.toList as) (hn:as.length=n)
 (r:zm C T d ops rest ((t,.val (zjn n R) as)::Γ) L Q):zm C T d ops (o::rest) Γ L Q:=by
 refine zam (by rw [ho]; rfl) hw hd (λz fr h s=>?_) r;obtain ⟨cells,h3,h4,_,h5⟩:=zj0 he s.fr har.pos zc (by rw [hzl,← hn]; simp);refine ⟨.agg cells, ?_, ?_⟩
 . rw [ho];simp only [aop,abuild,hz,har.und,har.sz,ze.cells,h3,zW,Option.map]
 . simp only [TE.ok];have hp:∀ i x,as[i]?=some x->R.rel z ((cells.drop (i*R.sz)).take R.sz) x:=λi x hx=>by have:=h5 i x hx; rwa [Nat.zero_add] at this
   exact ⟨⟨hn,by simp only [ze.cells]; rw [h4,hzl],ziE (l:=cells) har.pos (by rw [h4,hzl,hn]) hp,hp⟩,rfl⟩
theorem zsX {A:Type} {R:Rep A} {at_ et:TypeId} {n:Nat} {x:A} {zc:List ze} (har:Ar1 T at_ et n R) (hz:ze0 T at_=some (.agg zc)) (hx:∀ z,(zjn n R).rel z zc (List.replicate n x)) (hn:n<=maxLen) (hw:Want ops Γ true o.guard) (ho:o.op=.alloc at_) (hd:o.dst=some t)
 (r:∀ b,zm C T d ops rest ((t,.raw (.ptr b 0))::Γ) ((.slice b 0 n R.sz (some n),.row R (List.replicate n x))::L) Q):zm C T d ops (o::rest) Γ L Q:=by
 refine zfa hw (nf (by rw [ho]; rfl)) λz fr h s=>?_;have ha:aop T fr.op h o.op=some (.val (.ptr h.next 0) (h.push (.arr zc false))):=by rw [ho]; simp only [aop,zfW,hz,ze.cells]
 refine ⟨_,_,z,_,_,ha,nfo (by rw [ho]; rfl),.refl _, ?_,r h.next⟩;rw [hd,zaL];refine (s.pushOwn (v:=.slice h.next 0 n R.sz (some n)) (ob:=.row R (List.replicate n x)) _ rfl ?_).set (by simp only [TE.ok]);obtain ⟨e1,e2,_,e4⟩:=hx z;refine ⟨by rw [List.length_replicate]; exact hn,.inr ⟨h.next,0,some n,zc,by rw [List.length_replicate],by rw [za.get_push,if_pos rfl],by rw [List.length_replicate,e2]; omega,λc hc=>by cases hc; rw [List.length_replicate,e2]; omega,λi y hy=>by rw [Nat.zero_add]; exact e4 i y hy⟩⟩
theorem zxb {A:Type} {R:Rep A} {x y:Operand} {xs:List A} {at_ et:TypeId} {n:Nat} {kk:IntKind} {i:Int} {a:A} {b:Nat} (k:Nat) (har:Ar1 T at_ et n R) (hk:L[k]?=some (.slice b 0 n R.sz (some n),.row R xs)) (hi:idx xs i=some a) (hw:Want ops Γ true o.guard) (ho:o.op=.indexAddr at_ x y) (hd:o.dst=some t)
 (hx:Opd Γ x (.raw (.ptr b 0))) (hy:Opd Γ y (.val (zh kk) i)) (r:zm C T d ops rest ((t,.elt (.slice b 0 n R.sz (some n)) i.toNat 0)::Γ) L Q):zm C T d ops (o::rest) Γ L Q:=by
 refine zam (by rw [ho]; rfl) hw hd (λz fr h s=>?_) r;obtain ⟨h0,h1,h2,h3⟩:=zfv hi;have hr:=s.own.ok _ (List.mem_of_getElem? hk);simp only [Obj.ok] at hr;have hlen:xs.length=n:=by
  rcases hr.2 with ⟨q,_⟩ | ⟨b',off,cap,cells,q,_⟩
  . cases q
  . cases q; rfl
 refine ⟨.ptr b (0+i.toNat*R.sz), ?_,by simp only [TE.ok]; exact ⟨b,0,n,R.sz,some n,rfl,by simp⟩⟩;rw [ho];simp only [aop,hy.int s.fr,hx.raw s.fr,zdi,har.und,har.sz];rw [if_pos (by exact ⟨h0,by omega⟩)];rfl
theorem zu2 {A:Type} {R:Rep A} {x:Operand} {xs:List A} {at_ et:TypeId} {n:Nat} {b:Nat} (k:Nat) (hls:Listed d ops rest) (har:Ar1 T at_ et n R) (hk:L[k]?=some (.slice b 0 n R.sz (some n),.row R xs)) (hw:Want ops Γ true o.guard) (ho:o.op=.load at_ x) (hd:o.dst=some t)
 (hx:Opd Γ x (.raw (.ptr b 0))) (r:zm C T d ops rest ((t,.val (zjn n R) xs)::Γ) L Q):zm C T d ops (o::rest) Γ L Q:=by
 refine zfu (.l hls (by rw [ho]; rfl) (by rw [ho]; rfl)) (λz fr h s=>by
  rw [show foot fr.op o=⟨zL (fr.op x),false,[],false⟩ by unfold foot; rw [ho]];exact ⟨λb' hb=>zh8 s hk rfl b' (by simpa [zL,hx.raw s.fr] using hb),λb hb=>(nomatch hb)⟩) hw hd (λz fr h s=>?_) r
 have hr:=s.own.ok _ (List.mem_of_getElem? hk);simp only [Obj.ok] at hr;rcases hr.2 with ⟨q,_⟩ | ⟨b',off,cap,cells,q,g1,g2,g3,g4⟩
 . cases q
 . cases q;have hcl:0+xs.length*R.sz<=cells.length:=g2;refine ⟨.agg ((cells.drop 0).take (xs.length*R.sz)), ?_, ?_⟩
   . rw [ho];simp only [aop,hx.raw s.fr,aload,g1,Go.Ai.apart,har.isagg,har.whole];rw [if_pos (by omega)];rfl
   . simp only [TE.ok];have hp:∀ i x,xs[i]?=some x->R.rel z ((((cells.drop 0).take (xs.length*R.sz)).drop (i*R.sz)).take R.sz) x:=by
      intro i x hi;have h6:=zd8 (off:=0) (i:=i) (R:=R) (cells:=cells.take (xs.length*R.sz)) (by simp; omega) hi;rw [List.drop_zero,List.drop_take,List.take_take,Nat.min_eq_left]
      . have:=g4 i x hi; rwa [Nat.zero_add] at this
      . simp at h6; omega
     have hl:((cells.drop 0).take (xs.length*R.sz)).length=xs.length*R.sz:=by simp; omega
     exact ⟨⟨rfl,hl,ziE har.pos hl hp,hp⟩,rfl⟩
theorem zx2 {A:Type} {R:Rep A} {x y:Operand} {xs ys:List A} {at_ et:TypeId} {n:Nat} {b:Nat} (k:Nat) (har:Ar1 T at_ et n R) (hk:L[k]?=some (.slice b 0 n R.sz (some n),.row R xs)) (hw:Want ops Γ true o.guard) (ho:o.op=.store at_ x y) (hd:o.dst=none)
 (hx:Opd Γ x (.raw (.ptr b 0))) (hy:Opd Γ y (.val (zjn n R) ys)) {L':Own} (hL:zfw L k (.slice b 0 n R.sz (some n),.row R ys)=some L') (r:zm C T d ops rest Γ L' Q):zm C T d ops (o::rest) Γ L Q:=by
 refine zi4 (.w (by rw [ho]; rfl) (λt a q=>by rw [ho] at q; cases q) (by rw [ho]; rfl) (λq=>by rw [ho] at q; cases q)) (λz fr h s=>by
  rw [show foot fr.op o=⟨[],false,zL (fr.op x),false⟩ by unfold foot; rw [ho]];exact ⟨λb hb=>(nomatch hb),λb' hb=>zfc s hk rfl b' (by simpa [zL,hx.raw s.fr] using hb)⟩) hw hd (λz fr h s=>?_) r
 have hr:=s.own.ok _ (List.mem_of_getElem? hk);simp only [Obj.ok] at hr;have hv:=hy.val s.fr;obtain ⟨e1,e2,e3,e4⟩:=hv.rel;rcases hr.2 with ⟨q,_⟩ | ⟨b',off,cap,cells,q,g1,g2,g3,g4⟩
 . cases q
 . cases q;have hin:0+(fr.op y).cells.length<=cells.length:=by omega
   refine ⟨.tuple [],h.set b (.arr (splice cells 0 (fr.op y).cells) false), ?_,s.upd hk rfl rfl _ ?_ hL⟩
   . rw [ho];simp only [aop,hx.raw s.fr,astore,g1,har.whole];rw [if_pos (by exact ⟨e2,by omega,e3⟩)];rfl
   . simp only [Obj.ok];refine ⟨by rw [e1]; exact hr.1,.inr ⟨b,0,some xs.length,_,by rw [e1],by rw [za.get_set,if_pos rfl],by rw [zdn hin,e1]; exact g2,λc hc=>by rw [zdn hin,e1]; exact g3 c hc,λi x hi=>?_⟩⟩;have h6:=zd8 (off:=0) (i:=i) (R:=R) (cells:=(fr.op y).cells) (by rw [e1]; omega) hi;have:((splice cells 0 (fr.op y).cells).drop (0+i*R.sz)).take R.sz=((fr.op y).cells.drop (i*R.sz)).take R.sz:=by
      apply List.ext_getElem?;intro j;unfold splice;simp only [List.getElem?_take,List.getElem?_drop,List.getElem?_append,List.length_append,List.length_take,List.take_zero,List.nil_append,Nat.zero_add];repeat' split
      all_goals (try omega)
      all_goals rfl
     rw [this]; exact e4 i x hi
theorem zga {A:Type} {R:Rep A} {x y:Operand} {ys:List A} {es:List TE} {at_ et:TypeId} {n:Nat} {b:Nat} (k:Nat) (har:Ar1 T at_ et n R) (hk:L[k]?=some (.ptr b 0,.box es)) (hn:es.length=n*R.sz) (hm:n<=maxLen) (hw:Want ops Γ true o.guard) (ho:o.op=.store at_ x y) (hd:o.dst=none)
 (hx:Opd Γ x (.raw (.ptr b 0))) (hy:Opd Γ y (.val (zjn n R) ys)) {L':Own} (hL:zfw L k (.slice b 0 n R.sz (some n),.row R ys)=some L') (r:zm C T d ops rest Γ L' Q):zm C T d ops (o::rest) Γ L Q:=by
 refine zi4 (.w (by rw [ho]; rfl) (λt a q=>by rw [ho] at q; cases q) (by rw [ho]; rfl) (λq=>by rw [ho] at q; cases q)) (λz fr h s=>by
  rw [show foot fr.op o=⟨[],false,zL (fr.op x),false⟩ by unfold foot; rw [ho]];exact ⟨λb hb=>(nomatch hb),λb' hb=>zfc s hk rfl b' (by simpa [zL,hx.raw s.fr] using hb)⟩) hw hd (λz fr h s=>?_) r
 have hob:=s.own.ok _ (List.mem_of_getElem? hk);simp only [Obj.ok] at hob;obtain ⟨b',cells,q',g1,g2,g3⟩:=hob;cases q';have hv:=hy.val s.fr;obtain ⟨e1,e2,e3,e4⟩:=hv.rel;have hlc:=zbE g2;have e:splice cells 0 (fr.op y).cells=(fr.op y).cells:=by
  unfold splice;rw [List.take_zero,Nat.zero_add,List.drop_eq_nil_of_le (by omega)]; simp
 refine ⟨.tuple [],h.set b (.arr (fr.op y).cells false), ?_,s.upd hk rfl rfl _ ?_ hL⟩
 . rw [ho];simp only [aop,hx.raw s.fr,astore,g1,har.whole];rw [if_pos (by exact ⟨e2,by omega,e3⟩),e];rfl
 . simp only [Obj.ok];exact ⟨by rw [e1]; exact hm,.inr ⟨b,0,some n,_,by rw [e1],by rw [za.get_set,if_pos rfl],by rw [e1]; omega,λc hc=>by cases hc; rw [e1]; omega,λi x hi=>by rw [Nat.zero_add]; exact e4 i x hi⟩⟩
theorem zu3 {A:Type} {R:Rep A} {u u':TypeId} {et:TypeId} {x:Operand} {xs:List A} (hsl:Sl T u et R) (hw:Want ops Γ true o.guard) (ho:o.op=.binOp .eql u x (.const (.slice none 0 0)) u') (hd:o.dst=some t) (hx:Opd Γ x (.val (zd R) xs))
 (r1:xs=[]->zm C T d ops rest ((t,.val zu true)::Γ) L Q) (r0:zm C T d ops rest ((t,.val zu false)::Γ) L Q):zm C T d ops (o::rest) Γ L Q:=by
 have e0:∀ fr:zi,fr.op (.const (.slice none 0 0))=.nilslice:=λ_=>rfl;refine zfa hw (nf (by rw [ho]; rfl)) λz fr h s=>?_;have hr:=zgy (hx.val s.fr);rcases hr.2 with ⟨q,e⟩ | ⟨b,off,cap,q,e,_⟩ | ⟨b,off,cap,cells,ro,q,_⟩
 . exact ⟨.bool true,h,z,_,_,by rw [ho]; simp [aop,abin,q,e0,aguard,aeq,hsl.und,zW],nfo (by rw [ho]; rfl),.refl _,by rw [hd,zaL]; exact s.set (e:=.val zu true) (by simp only [TE.ok]; exact zcs),r1 e⟩
 . exact ⟨.bool false,h,z,_,_,by rw [ho]; simp [aop,abin,q,e0,aguard,aeq,hsl.und,zW],nfo (by rw [ho]; rfl),.refl _,by rw [hd,zaL]; exact s.set (e:=.val zu false) (by simp only [TE.ok]; exact zcs),r0⟩
 . exact ⟨.bool false,h,z,_,_,by rw [ho]; simp [aop,abin,q,e0,aguard,aeq,hsl.und,zW],nfo (by rw [ho]; rfl),.refl _,by rw [hd,zaL]; exact s.set (e:=.val zu false) (by simp only [TE.ok]; exact zcs),r0⟩
inductive zsb (T:Tab):{A:Type}->Nat->Rep A->(A->A->Bool)->List Field->Nat->Prop where
 | n {n off:Nat}:zsb T n zce (fun _ _=>true) [] off
 | i {n : Nat} {B : Type} {S : Rep B} {k : IntKind} {q : B → B → Bool} {f : Field} {fs : List Field} {off : Nat} (hn : f.name ≠ "_") (hu : T.und f.type = some (.int k)) (hf : f.offset = off) (r : zsb T n S q fs (off + 1)) : zsb T n (zz (zh k) S) (fun x y => x.1 == y.1 && q x.2 y.2) (f :: fs) off
 | b {n : Nat} {B : Type} {S : Rep B} {q : B → B → Bool} {f : Field} {fs : List Field} {off : Nat} (hn : f.name ≠ "_") (hu : T.und f.type = some .bool) (hf : f.offset = off) (r : zsb T n S q fs (off + 1)) : zsb T n (zz zu S) (fun x y => x.1 == y.1 && q x.2 y.2) (f :: fs) off
 | s {n : Nat} {A B : Type} {R : Rep A} {S : Rep B} {q' : A → A → Bool} {q : B → B → Bool} {f : Field} {fs : List Field} {gs : Array Field} {off : Nat} (hn : f.name ≠ "_") (hu : T.und f.type = some (.struct gs)) (hst : ((T.types.get f.type).map (·.stood)).getD true = false) (hag : zdR T f.type = some true) (hsz : szT T f.type = some R.sz) (hp : 0 < R.sz) (hf : f.offset = off) (r' : zsb T n R q' gs.toList 0) (r : zsb T (n + 1) S q fs (off + R.sz)) : zsb T (n + 1) (zz R S) (fun x y => q' x.1 y.1 && q x.2 y.2) (f :: fs) off
theorem zqW {t:TypeId} {k:IntKind} (h:T.und t=some (.int k)):zdR T t=some false:=by simp only [zdR,h]
theorem zpH {t:TypeId} (h:T.und t=some .bool):zdR T t=some false:=by simp only [zdR,h]
theorem zu4 {dp n:Nat} {A:Type} {R:Rep A} {q:A->A->Bool} {fs:List Field} {off:Nat} (e:zsb T n R q fs off) (hdp:n<=dp):∀ (cx cy:List ze) (x y:A),R.rel z (cx.drop off) x->R.rel z (cy.drop off) y ->
    zc6 (λf=>match Go.Ai.apart T f.type cx f.offset,Go.Ai.apart T f.type cy f.offset with
        | some u,some v=>aeq T (dp+1) f.type u v
        | _,_=>none) fs=some (q x y):=by
  induction e generalizing dp with
  | n=>intros; rfl
  | @i n B S k q f fs off hn hu hf _ ih=>
    intro cx cy x y hx hy;subst hf;obtain ⟨c1,c2,e1,h1,h2⟩:=hx;obtain ⟨d1,d2,e2,g1,g2⟩:=hy;rw [h1.1] at e1;rw [g1.1] at e2;have hcx:cx[f.offset]?=some (.int k x.1):=by have:=congrArg (λl=>l[0]?) e1; simpa using this
    have hcy:cy[f.offset]?=some (.int k y.1):=by have:=congrArg (λl=>l[0]?) e2; simpa using this
    have ax:cx.drop (f.offset+1)=c2:=by have:=congrArg List.tail e1; simpa using this
    have ay:cy.drop (f.offset+1)=d2:=by have:=congrArg List.tail e2; simpa using this
    have:=ih hdp cx cy x.2 y.2 (by rw [ax]; exact h2) (by rw [ay]; exact g2);have hag:=zqW hu;simp only [zc6,if_pos hn,Go.Ai.apart,hag,hcx,hcy,aeq,hu,if_pos rfl] at this ⊢;cases hb:(x.1==y.1) with
    | true=>simp only [Bool.true_and]; exact this
    | false=>rfl
  | @b n B S q f fs off hn hu hf _ ih=>
    intro cx cy x y hx hy;subst hf;obtain ⟨c1,c2,e1,h1,h2⟩:=hx;obtain ⟨d1,d2,e2,g1,g2⟩:=hy;have h1:c1=[.bool x.1]:=h1;have g1:d1=[.bool y.1]:=g1;rw [h1] at e1;rw [g1] at e2;have hcx:cx[f.offset]?=some (.bool x.1):=by have:=congrArg (λl=>l[0]?) e1; simpa using this
    have hcy:cy[f.offset]?=some (.bool y.1):=by have:=congrArg (λl=>l[0]?) e2; simpa using this
    have ax:cx.drop (f.offset+1)=c2:=by have:=congrArg List.tail e1; simpa using this
    have ay:cy.drop (f.offset+1)=d2:=by have:=congrArg List.tail e2; simpa using this
    have:=ih hdp cx cy x.2 y.2 (by rw [ax]; exact h2) (by rw [ay]; exact g2);have hag:=zpH hu;simp only [zc6,if_pos hn,Go.Ai.apart,hag,hcx,hcy,aeq,hu] at this ⊢;cases hb:(x.1==y.1) with
    | true=>simp only [Bool.true_and]; exact this
    | false=>rfl
  | @s n A B R S q' q f fs gs off hn hu hst hag hsz hp hf _ _ ih' ih=>
    intro cx cy x y hx hy;subst hf;obtain ⟨c1,c2,e1,h1,h2⟩:=hx;obtain ⟨d1,d2,e2,g1,g2⟩:=hy;obtain ⟨dp,rfl⟩:∃ d,dp=d+1:=⟨dp-1,by omega⟩;have lc:=R.len _ _ _ h1;have ld:=R.len _ _ _ g1;have tx:(cx.drop f.offset).take R.sz=c1:=by rw [e1,← lc]; simp
    have ty:(cy.drop f.offset).take R.sz=d1:=by rw [e2,← ld]; simp
    have ax:cx.drop (f.offset+R.sz)=c2:=by rw [← List.drop_drop,e1,← lc]; simp
    have ay:cy.drop (f.offset+R.sz)=d2:=by rw [← List.drop_drop,e2,← ld]; simp
    have lx:f.offset+R.sz<=cx.length:=by
      have:=congrArg List.length e1;rw [List.length_drop,List.length_append] at this;omega
    have ly:f.offset+R.sz<=cy.length:=by
      have:=congrArg List.length e2;rw [List.length_drop,List.length_append] at this;omega
    have i1:=ih' (dp:=dp) (by omega) c1 d1 x.1 y.1 (by simpa using h1) (by simpa using g1);have i2:=ih hdp cx cy x.2 y.2 (by rw [ax]; exact h2) (by rw [ay]; exact g2);have px:Go.Ai.apart T f.type cx f.offset=some (.agg c1):=by
      simp only [Go.Ai.apart,hag,hsz]; rw [if_pos lx,tx]
    have py:Go.Ai.apart T f.type cy f.offset=some (.agg d1):=by
      simp only [Go.Ai.apart,hag,hsz]; rw [if_pos ly,ty]
    have ae:aeq T (dp+1+1) f.type (.agg c1) (.agg d1)=some (q' x.1 y.1):=by
      simp only [aeq,hu,hst];exact i1
    simp only [zc6,if_pos hn,px,py,ae];cases hb:q' x.1 y.1 with
    | true=>simp only [Bool.true_and]; exact i2
    | false=>rfl
structure SEq (T:Tab) (t:TypeId) {A:Type} (R:Rep A) (q:A->A->Bool):Prop where
 ok:∃ fs,T.und t=some (.struct fs)/\zsb T 4 R q fs.toList 0
 stood:((T.types.get t).map (·.stood)).getD true=false
 eqg:((T.types.get t).map (·.eqg)).getD true=false
theorem zqX {A:Type} {R:Rep A} {q:A->A->Bool} {u:TypeId} {v w:ze} {a b:A} (h:SEq T u R q) (hR:R.agg=true) (hv:TV R z v a) (hw:TV R z w b):abin T .eql u v w=some (.bool (q a b))/\abin T .neq u v w=some (.bool (!q a b)):=by
 obtain ⟨fs,h1,h2⟩:=h.ok;have e1:=hv.agg;have e2:=hw.agg;rw [hR] at e1 e2;cases v with
 | agg cx=>
  cases w with
  | agg cy=>
   have hr1:=hv.rel;have hr2:=hw.rel;simp only [ze.cells] at hr1 hr2;have key:=zu4 (dp:=6) h2 (by omega) cx cy a b (by simpa using hr1) (by simpa using hr2);have ae:aeq T 8 u (.agg cx) (.agg cy)=some (q a b):=by
    simp only [aeq,h1,h.stood];exact key
   constructor
   ·simp only [abin,aguard,h.eqg,ae]; rfl
   ·simp only [abin,aguard,h.eqg,ae]; rfl
  | _=>cases e2
 | _=>cases e1
theorem zyr {A:Type} {R:Rep A} {q:A->A->Bool} {u u':TypeId} {x y:Operand} {a b:A} (hs:SEq T u R q) (hR:R.agg=true) (hw:Want ops Γ true o.guard) (ho:o.op=.binOp .eql u x y u') (hd:o.dst=some t) (hx:Opd Γ x (.val R a)) (hy:Opd Γ y (.val R b))
 (r:zm C T d ops rest ((t,.val zu (q a b))::Γ) L Q):zm C T d ops (o::rest) Γ L Q:=by
 refine zam (by rw [ho]; rfl) hw hd (λz fr h s=>⟨.bool (q a b), ?_,by simp only [TE.ok]; exact zcs⟩) r;rw [ho];simp only [aop,(zqX hs hR (hx.val s.fr) (hy.val s.fr)).1,zW,Option.map]
theorem zys {A:Type} {R:Rep A} {q:A->A->Bool} {u u':TypeId} {x y:Operand} {a b:A} (hs:SEq T u R q) (hR:R.agg=true) (hw:Want ops Γ true o.guard) (ho:o.op=.binOp .neq u x y u') (hd:o.dst=some t) (hx:Opd Γ x (.val R a)) (hy:Opd Γ y (.val R b))
 (r:zm C T d ops rest ((t,.val zu (!q a b))::Γ) L Q):zm C T d ops (o::rest) Γ L Q:=by
 refine zam (by rw [ho]; rfl) hw hd (λz fr h s=>⟨.bool (!q a b), ?_,by simp only [TE.ok]; exact zcs⟩) r;rw [ho];simp only [aop,(zqX hs hR (hx.val s.fr) (hy.val s.fr)).2,zW,Option.map]
theorem zbt {A:Type} {R:Rep A} {xs:List A} {et:TypeId} {x y:Operand} {b q:Nat} {v:ze} {es:List TE} (k m:Nat) (hsz:szT T et=some 1) (hk:L[k]?=some (.ptr b 0,.box es)) (hm:L[m]?=some (v,.row R xs)) (hq:q<es.length) (hw:Want ops Γ true o.guard) (ho:o.op=.store et x y) (hd:o.dst=none) (hx:Opd Γ x (.raw (.ptr b q))) (hy:Opd Γ y (.raw v))
 {L':Own} (hL:zfw L k (.ptr b 0,.box (es.set q (.raw v)))=some L') (r:zm C T d ops rest Γ L' Q):zm C T d ops (o::rest) Γ L Q:=by
 refine zi4 (.w (by rw [ho]; rfl) (λt a q=>by rw [ho] at q; cases q) (by rw [ho]; rfl) (λq=>by rw [ho] at q; cases q)) (λz fr h s=>by
  rw [show foot fr.op o=⟨[],false,zL (fr.op x),false⟩ by unfold foot; rw [ho]];exact ⟨λb hb=>(nomatch hb),λb' hb=>zfc s hk rfl b' (by simpa [zL,hx.raw s.fr] using hb)⟩) hw hd (λz fr h s=>?_) r
 have hv1:v.one=true:=by
  have hr:=s.own.ok _ (List.mem_of_getElem? hm);simp only [Obj.ok] at hr;rcases hr.2 with ⟨q,_⟩ | ⟨_,_,_,_,q,_⟩<;>rw [q]<;>rfl
 have hob:=s.own.ok _ (List.mem_of_getElem? hk);simp only [Obj.ok] at hob;obtain ⟨b',cells,q',h2,h3,h4⟩:=hob;cases q';have hv:=hy.raw s.fr;have hcs:v.cells=[v]:=by cases v<;>simp_all [ze.cells,ze.one]
 have hlt:q<cells.length:=by rw [zbE h3]; exact hq
 refine ⟨.tuple [],h.set b (.arr (cells.set q v) false), ?_,s.upd hk rfl rfl _ ?_ hL⟩
 . rw [ho];simp only [aop,hx.raw s.fr,hv,astore,h2,hsz,hcs,List.length_singleton];rw [if_pos (by exact ⟨by trivial,by omega,by simp [hv1]⟩),zla hlt];rfl
 . refine ⟨b,_,rfl,by rw [za.get_set,if_pos rfl],zgX h3 (by simp only [TE.ok]), ?_⟩;rw [List.all_eq_true] at h4 ⊢;intro c hc;rcases List.mem_or_eq_of_mem_set hc with q | rfl
   . exact h4 c q
   . exact hv1
theorem zdV {A:Type} {R:Rep A} {xs:List A} {v:ze} {b q:Nat} {es:List TE} (k m:Nat) (ts:List Nat) {L' L'':Own} (hk:L[k]?=some (v,.row R xs)) (hL:zdU L k=some L') (hm:L'[m]?=some (.ptr b 0,.box es)) (hq:es[q]?=some (.raw v)) (hL':zfw L' m (.ptr b 0,.box (es.set q (.val (zd R) xs)))=some L'') (hts:zic Γ v ts) :
    ∀ z fr h,StZ C Γ L z fr h->∃ z',z.le z'/\StZ C (zfX ts (.val (zd R) xs) Γ) L'' z' fr h:=by
  intro z fr h s;obtain ⟨z',hz,s',hr⟩:=s.freeze hk hL;have hval:TE.ok z' (.val (zd R) xs) v:=by simp only [TE.ok]; exact zbR hr
  have hob:=s'.own.ok _ (List.mem_of_getElem? hm);simp only [Obj.ok] at hob;obtain ⟨b',cells,q',g1,g2,g3⟩:=hob;cases q';obtain ⟨c,hc1,hc2⟩:=zjo g2 hq;simp only [TE.ok] at hc2;subst hc2;have hset:cells.set q c=cells:=by
    apply List.ext_getElem?;intro i;rw [List.getElem?_set];split
    · rename_i e; subst e;rw [if_pos (List.getElem?_eq_some_iff.1 hc1).1,hc1]
    · rfl
  have hobj:(Obj.box (es.set q (.val (zd R) xs))).ok z' h (.ptr b 0):=by
    refine ⟨b,cells,rfl,g1, ?_,g3⟩;rw [← hset]; exact zgX g2 hval
  obtain ⟨rfl,hlt⟩:=zh9 hL';have hmem:∀ p∈L'.set m (.ptr b 0,.box (es.set q (.val (zd R) xs))),p=(.ptr b 0,.box (es.set q (.val (zd R) xs)))\/p∈L':=by
    intro p hp;rcases List.mem_or_eq_of_mem_set hp with e | e
    · exact .inr e
    · exact .inl e
  have hb0:blks (L'.set m (.ptr b 0,.box (es.set q (.val (zd R) xs))))=blks L':=by
    have key:∀ (L:Own) (m:Nat),L[m]?=some (.ptr b 0,.box es)->blks (L.set m (.ptr b 0,.box (es.set q (.val (zd R) xs))))=blks L:=by
      intro L;induction L with
      | nil=>intro m h; simp at h
      | cons p L ih=>
        intro m h;cases m with
        | zero=>simp at h; subst h; rw [List.set_cons_zero,zaa,zaa]; rfl
        | succ m=>rw [List.set_cons_succ,zaa,zaa,ih m (by simpa using h)]
    exact key L' m hm
  refine ⟨z',hz,{ s' with fr:=zev hval hts s'.fr,own:=⟨λp hp=>?_,λp hp=>?_,by rw [hb0]; exact s'.own.nodup⟩ }⟩
  · rcases hmem p hp with rfl | hp
    · exact hobj
    · exact s'.own.ok p hp
  · rcases hmem p hp with rfl | hp
    · intro c' hc';exact s'.own.out _ (List.mem_of_getElem? hm) c' (by simpa [zeK,zh4] using hc')
    · exact s'.own.out p hp
end
end Go.Ai.Sx
/- Calls that hand owned things over and get them back changed. -/
namespace Go.Ai.Sx
def zgM (T:Tab) (g:FuncId) (as:List TE) (L0:Own) (rs:List RE) (L1:List ze->Own):Prop:=
 ∀ z h vs,z.Sub h->h.wm<=h.next->zA z as vs->zgL ⟨z,h,blks L0⟩ z h L0->zkD T g vs h λr h'=>∃ us z' γ,r=.ret (packed us)/\us.length=rs.length/\Chg ⟨z,h,blks L0⟩ h'/\z.le z'/\z'.Sub h'/\(∀ b,b<h.next->b∉blks L0->z' b=z b)/\zA z' (tes rs us) us/\zgL ⟨z,h,blks L0⟩ z' h' (owns rs us++L1 γ)
section
variable {C:Ctx} {T:Tab} {d:Option (List Nat)} {ops rest:List Oper} {Γ:Env} {L:Own} {Q:zi->za->Prop} {P:zaH->zi->za->Prop} {o:Oper} {t:Nat} {z:Store} {fr:zi} {h:za}
theorem zj7 {ks js:List Nat} (hn:(ks++js).Nodup) (hb:(blks L).Nodup) {p:ze×Obj} {b:Nat} (hp:p∈picks L js) (h1:b∈zeK p):b∉blks (picks L ks):=by
 intro q;obtain ⟨p',hp',h2⟩:=za3.1 q;obtain ⟨i,i1,i2⟩:=zdA hp;obtain ⟨j,j1,j2⟩:=zdA hp';have:=zdm hb i2 j2 h1 h2;subst this;exact (List.nodup_append.1 hn).2.2 i j1 i i1 rfl
theorem zbg {ks:List Nat} {p:ze×Obj} (hp:p∈picks L ks):p∈L:=by
 obtain ⟨i,_,h2⟩:=zdA hp;exact List.mem_of_getElem? h2
theorem StZ.afterM (s:StZ C Γ L z fr h) {ks js:List Nat} (hn:(ks++js).Nodup) {h':za} {z':Store} {O:Own} (q:Chg ⟨z,h,blks (picks L ks)⟩ h') (hz:z.le z') (hs:z'.Sub h') (hold:∀ b,b<h.next->b∉blks (picks L ks)->z' b=z b) (ho:zgL ⟨z,h,blks (picks L ks)⟩ z' h' O):StZ C Γ (O++picks L js) z' fr h':=by
 have inn:∀ b,b∈blks (picks L ks)->b<h.next/\(C.h0.next<=b\/b∈C.B0):=λb hb=>by
  obtain ⟨p,hp,h1⟩:=za3.1 hb;obtain ⟨_,o2,o3⟩:=s.own.out p (zbg hp) b h1;exact ⟨o2,o3⟩
 have notin:∀ b,b<C.h0.next->b∉C.B0->b∉blks (picks L ks):=λb hb hB hq=>by
  rcases (inn b hq).2 with q1 | q1
  . omega
  . exact hB q1
 have qn:h.next<=h'.next:=q.next;have sn:=s.chg.next;refine { zle:=s.zle.trans hz,sub:=hs,old:=λb hb hB=>?_,fr:=s.fr.mono hz,own:=⟨?_, ?_, ?_⟩,chg:=⟨Nat.le_trans sn qn,λb hb hB=>?_,λm m1 m2 m3=>?_,q.ok⟩ }
 . rw [hold b (by omega) (notin b hb hB)]; exact s.old b hb hB
 . intro p hp;rcases List.mem_append.1 hp with hp | hp
   . exact ho.ok p hp
   . exact Obj.ok_mono hz (λb hb=>q.same b (s.own.out p (zbg hp) b hb).2.1 (zj7 hn s.own.nodup hp hb)) (s.own.ok p (zbg hp))
 . intro p hp b hb;rcases List.mem_append.1 hp with hp | hp
   . obtain ⟨o1,o2,o3⟩:=ho.out p hp b hb;refine ⟨o1,o2, ?_⟩;rcases o3 with q1 | q1
     . exact .inl (Nat.le_trans sn q1)
     . exact (inn b q1).2
   . obtain ⟨o1,o2,o3⟩:=s.own.out p (zbg hp) b hb;exact ⟨by rw [hold b o2 (zj7 hn s.own.nodup hp hb)]; exact o1,Nat.lt_of_lt_of_le o2 qn,o3⟩
 . rw [show blks (O++picks L js)=blks O++blks (picks L js) by simp [blks]];refine List.nodup_append.2 ⟨ho.nodup,zcf s.own.nodup (List.nodup_append.1 hn).2.1,λa ha b hb e=>?_⟩;subst e;obtain ⟨p,hp,h1⟩:=za3.1 ha;obtain ⟨p',hp',h2⟩:=za3.1 hb;rcases (ho.out p hp a h1).2.2 with q1 | q1
   . have q1:h.next<=a:=q1;have:=(s.own.out p' (zbg hp') a h2).2.1;omega
   . exact zj7 hn s.own.nodup hp' h2 q1
 . have:h'.get b=h.get b:=q.same b (Nat.lt_of_lt_of_le hb sn) (notin b hb hB);rw [this]; exact s.chg.same b hb hB
 . refine q.wm m (s.chg.wm m m1 m2 m3) (Nat.le_trans m2 sn) λb hb=>?_;rcases (inn b hb).2 with q1 | q1
   . omega
   . exact m3 b q1
theorem StZ.lent (s:StZ C Γ L z fr h) {ks:List Nat} (hn:ks.Nodup):zgL ⟨z,h,blks (picks L ks)⟩ z h (picks L ks):=
 ⟨λp hp=>s.own.ok p (zbg hp),λp hp b hb=>⟨(s.own.out p (zbg hp) b hb).1,(s.own.out p (zbg hp) b hb).2.1,.inr (za3.2 ⟨p,hp,hb⟩)⟩,zcf s.own.nodup hn⟩
theorem zyt {c:Call} {x:Operand} {g:FuncId} {pre post:List ze} {as:List TE} {rs:List RE} {L0 Lr:Own} {L1:List ze->Own} (ks js:List Nat) (hf:zgM T g as L0 rs L1) (h0:picks L ks=L0) (hr:picks L js=Lr) (hn:(ks++js).Nodup) (hcst:T.consts.get g=none) (hw:Want ops Γ true o.guard) (ho:o.op=.call c) (hd:o.dst=some t) (hc:c.callee=.value x) (hx:Opd Γ x (.raw (.func (.func g) [] []))) (hvs:Opds Γ c.args.toList as)
 (hq:∀ γ,RQ rs (L1 γ++Lr) λes L'=>zm C T none ops rest ((t,zn3 es)::Γ) L' Q):zm C T none ops (o::rest) Γ L Q:=by
 subst h0 hr;intro fr h ⟨z,s⟩;have ha:aop T fr.op h o.op=some (.call (.func (.func g) [] []) (c.args.toList.map fr.op)):=by rw [ho]; simp only [aop,zcD,hc,hx.raw s.fr]
 simp only [wX,hw.ok s.fr,ha,hd,zaL];refine zcS hcst ?_;rw [List.nil_append,List.append_nil];refine (hf z h _ s.sub s.chg.ok (hvs.ok s.fr) (s.lent (List.nodup_append.1 hn).1)).mono λr h' ⟨us,z',γ,e1,hl,q,hz,hs,hold,hok,hown⟩=>⟨packed us,e1, ?_⟩;have s':=s.afterM (js:=js) hn q hz hs hold hown;rw [List.append_assoc] at s';exact (hq γ).at hl _ _ ⟨z',s'.set (zj1 hl hok)⟩
def zy9 (C:Ctx) (T:Tab) (res:List ResultVar) (rs:List RE) (L1:List ze->Own) (e:zaH) (fr:zi) (h:za):Prop:=
 (e=.normal\/e=.ret)/\∃ us z γ,aresults T res fr h=some us/\us.length=rs.length/\C.z0.le z/\z.Sub h/\(∀ b,b<C.h0.next->b∉C.B0->z b=C.z0 b)/\zA z (tes rs us) us/\zgL C z h (owns rs us++L1 γ)/\Chg C h
theorem zgb {L:Own}:∀ {is js:List Nat},picks L (is++js)=picks L is++picks L js
 | [],_=>rfl
 | i::is,js=>by
  simp only [List.cons_append,picks];cases L[i]? with
  | none=>exact zgb
  | some p=>simp only [List.cons_append,zgb]
theorem zaF {e:zaH} {res:List ResultVar} {rs:List RE} {L1:List ze->Own} {ks:List Nat} (js:List Nat) (γ:List ze) (he:e=.normal\/e=.ret) (q:Rets T Γ L res rs ks) (hL:picks L js=L1 γ) (hn:(ks++js).Nodup):∀ fr h,St C Γ L fr h->zy9 C T res rs L1 e fr h:=by
 intro fr h ⟨z,s⟩;obtain ⟨us,h1,h2,h3,h4⟩:=q.ok s;refine ⟨he,us,z,γ,h1,h2,s.zle,s.sub,s.old,h3, ?_,s.chg⟩;rw [h4,← hL,← zgb];exact ⟨λp hp=>s.own.ok p (zbg hp),λp hp=>s.own.out p (zbg hp),zcf s.own.nodup hn⟩
theorem zdN {g:FuncId} {F:Func} {c:Code} {as:List TE} {rs:List RE} {L0:Own} {L1:List ze->Own} (hF:T.funcs.get g=some F) (hb:F.body=some c) (hn:Nat.blt F.ntmps as.length=false) (run:∀ C,zeL C T c (entry 0 as) L0 (zy9 C T F.results.toList rs L1)):zgM T g as L0 rs L1:=by
 intro z h vs hsub hwm hok hL;refine zlJ hF hb (by rw [zbE hok]; exact hn) ?_;have s0:StZ ⟨z,h,blks L0⟩ (entry 0 as) L0 z (zcl 0 vs .leaf) h:=
  { zle:=.refl _,sub:=hsub,old:=λ_ _ _=>rfl,fr:=zjr hok,own:=hL,chg:=⟨Nat.le_refl _,λ_ _ _=>rfl,λ_ m1 _ _=>m1,hwm⟩ }
 refine (run ⟨z,h,blks L0⟩ _ _ ⟨z,s0⟩).mono λe fr h' ⟨he,us,z',γ,h1,h2,h3,h4,h5,h6,h7,h8⟩=>⟨he,us,h1,us,z',γ,rfl,h2,h8,h3,h4,λb hb=>h5 b hb,h6,h7⟩
def zp7 (g:FuncId) (ps cs:List TE):Rep Unit:=
 ⟨1,false,λz xs _=>∃ us vs,xs=[.func (.func g) us vs]/\zA z ps us/\zA z cs vs,λ_ _ _ h=>by obtain ⟨u,v,h,_⟩:=h; rw [h]; rfl,
  λ_ _ _ _ e h=>let ⟨u,v,h1,h2,h3⟩:=h; ⟨u,v,h1,zdl e h2,zdl e h3⟩,λ_=>rfl,λ_ _ _ h=>by obtain ⟨u,v,h,_⟩:=h; rw [h]; rfl⟩
theorem zm1 {g:FuncId} {ps cs:List TE} {v:ze} {x:Unit} (q:TV (zp7 g ps cs) z v x):∃ us vs,v=.func (.func g) us vs/\zA z ps us/\zA z cs vs:=by
 obtain ⟨⟨us,vs,h1,h2,h3⟩,h4⟩:=q;refine ⟨us,vs, ?_,h2,h3⟩;cases v<;>simp_all [ze.isAgg,ze.cells,zp7]
theorem zj8 {g:FuncId} {first captured:Array Operand} {ps cs:List TE} (hw:Want ops Γ true o.guard) (ho:o.op=.makeFunc (.func g) first captured) (hd:o.dst=some t) (h1:Opds Γ first.toList ps) (h2:Opds Γ captured.toList cs)
 (r:zm C T d ops rest ((t,.val (zp7 g ps cs) ())::Γ) L Q):zm C T d ops (o::rest) Γ L Q:=by
 refine zam (by rw [ho]; rfl) hw hd (λz fr h s=>?_) r;refine ⟨.func (.func g) (first.toList.map fr.op) (captured.toList.map fr.op),by rw [ho]; rfl, ?_⟩;simp only [TE.ok];exact ⟨⟨_,_,rfl,h1.ok s.fr,h2.ok s.fr⟩,rfl⟩
end
end Go.Ai.Sx
/- Rows whose elements are rows that are owned too. -/
namespace Go.Ai.Sx
def zpI:Rep ze:=⟨1,false,λ_ cs x=>cs=[x]/\x.one=true/\x.isAgg=false,λ_ _ _ h=>by rw [h.1]; rfl,λ_ _ _ _ _ h=>h,λ_=>rfl,λ_ _ _ h=>by rw [h.1]; simp [h.2.1]⟩
theorem zuf {z:Store} {v x:ze} (q:TV zpI z v x):v=x:=by
 have h1:=q.agg;have h2:=q.rel;cases v<;>simp_all [ze.isAgg,ze.cells,zpI]
section
variable {C:Ctx} {T:Tab} {d:Option (List Nat)} {ops rest:List Oper} {Γ:Env} {L:Own} {Q:zi->za->Prop} {P:zaH->zi->za->Prop} {o:Oper} {t:Nat} {z:Store} {fr:zi} {h:za}
theorem StZ.repack (s:StZ C Γ L z fr h) {L':Own} (hp:(blks L').Perm (blks L)) (hk:∀ p∈L',p.2.ok z h p.1):StZ C Γ L' z fr h:=by
 refine { s with own:=⟨hk,λp hp' b hb=>?_,hp.nodup_iff.2 s.own.nodup⟩ };have h1:=hp.mem_iff.1 (za3.2 ⟨p,hp',hb⟩);obtain ⟨q,hq,hb'⟩:=za3.1 h1;exact s.own.out q hq b hb'
theorem zqY {L L':Own} (hp:L.Perm L'):(blks L).Perm (blks L'):=List.Perm.flatMap_right _ hp
theorem set_same.{u} {α:Type u} {l:List α} {i:Nat} {a:α} (h:l[i]?=some a):l.set i a=l:=by
 apply List.ext_getElem?;intro j;rw [List.getElem?_set];split
 . rename_i q;subst q;rw [if_pos (List.getElem?_eq_some_iff.1 h).1]; exact h.symm
 . rfl
theorem zlV {e:TE} {n:Nat} (hf:zin z Γ fr) (h:e.ok z (fr.ev n)):zin z ((n,e)::Γ) fr:=by
 intro t e' q;simp only [look] at q;cases hb:Nat.beq n t with
 | true=>
  rw [hb] at q;cases q;have:=Nat.eq_of_beq_eq_true hb;subst this;exact h
 | false=>rw [hb] at q; exact hf t e' q
def untup:ze->List ze
 | .tuple l=>l
 | _=>[]
end
end Go.Ai.Sx