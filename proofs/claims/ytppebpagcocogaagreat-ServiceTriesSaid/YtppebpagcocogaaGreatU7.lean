/- Fields that are known to be nil: rows that grow from nothing,in boxes. -/
import Derived.Test.YtppebpagcocogaaGreatU5
import Derived.Test.YtppebpagcocogaaGreatU3
set_option linter.unusedSimpArgs false
set_option linter.unusedVariables false
set_option linter.unusedSectionVars false
namespace Go.Ai.Sx
def zqU:Rep Unit:=⟨1,false,λ_ cs _=>cs=[.nilslice],λ_ _ _ h=>by rw [h]; rfl,λ_ _ _ _ _ h=>h,λ_=>rfl,λ_ _ _ h=>by rw [h]; rfl⟩
theorem zns {z:Store}:zqU.rel z [.nilslice] ():=rfl
section
variable {C:Ctx} {Γ:Env} {L:Own}
theorem zuj {b:Nat} {es es':List TE}:∀ (L:Own) (m:Nat),L[m]?=some (.ptr b 0,.box es)->blks (L.set m (.ptr b 0,.box es'))=blks L:=by
 intro L;induction L with
 | nil=>intro m h; simp at h
 | cons p L ih=>
  intro m h;cases m with
  | zero=>simp at h; subst h; rw [List.set_cons_zero,z8,z8]; rfl
  | succ m=>rw [List.set_cons_succ,z8,z8,ih m (by simpa using h)]
theorem StZ.cell {z:Store} {fr:zf} {h:za} {b q:Nat} {es:List TE} {e e':TE} (s:StZ C Γ L z fr h) (m:Nat) {L':Own} (hm:L[m]?=some (.ptr b 0,.box es)) (hq:es[q]?=some e) (hi:∀ v,e.ok z v->e'.ok z v) (hL:zfn L m (.ptr b 0,.box (es.set q e'))=some L'):StZ C Γ L' z fr h:=by
 have hob:=s.own.ok _ (List.mem_of_getElem? hm);simp only [Obj.ok] at hob;obtain ⟨b',cells,q',g1,g2,g3⟩:=hob;cases q';obtain ⟨c,hc1,hc2⟩:=zjj g2 hq;have hset:cells.set q c=cells:=by
  apply List.ext_getElem?;intro i;rw [List.getElem?_set];split
  . rename_i e; subst e;rw [if_pos (List.getElem?_eq_some_iff.1 hc1).1,hc1]
  . rfl
 have hobj:(Obj.box (es.set q e')).ok z h (.ptr b 0):=by
  refine ⟨b,cells,rfl,g1, ?_,g3⟩;rw [← hset]; exact zgE g2 (hi _ hc2)
 obtain ⟨rfl,hlt⟩:=zhU hL;have hmem:∀ p∈L.set m (.ptr b 0,.box (es.set q e')),p=(.ptr b 0,.box (es.set q e'))\/p∈L:=by
  intro p hp;rcases List.mem_or_eq_of_mem_set hp with e | e
  . exact .inr e
  . exact .inl e
 refine { s with own:=⟨λp hp=>?_,λp hp=>?_,by rw [zuj L m hm]; exact s.own.nodup⟩ }
 . rcases hmem p hp with rfl | hp
   . exact hobj
   . exact s.own.ok p hp
 . rcases hmem p hp with rfl | hp
   . intro c' hc';exact s.own.out _ (List.mem_of_getElem? hm) c' (by simpa [zeA,zhP] using hc')
   . exact s.own.out p hp
theorem zrY {b q:Nat} {es:List TE} {e e':TE} (m:Nat) {L':Own} (hm:L[m]?=some (.ptr b 0,.box es)) (hq:es[q]?=some e) (hi:∀ z v,e.ok z v->e'.ok z v) (hL:zfn L m (.ptr b 0,.box (es.set q e'))=some L') :
 ∀ z fr h,StZ C Γ L z fr h->∃ z',z.le z'/\StZ C Γ L' z' fr h:=λz _ _ s=>⟨z,.refl _,s.cell m hm hq (hi z) hL⟩
theorem zqz {b q:Nat} {es:List TE} {v:ze} (m:Nat) {L':Own} (hm:L[m]?=some (.ptr b 0,.box es)) (hq:es[q]?=some (.val zqR v)) (hL:zfn L m (.ptr b 0,.box (es.set q (.raw v)))=some L') :
 ∀ z fr h,StZ C Γ L z fr h->∃ z',z.le z'/\StZ C Γ L' z' fr h:=zrY m hm hq zug hL
theorem zoD {A B:Type} {K:Rep A} {R:Rep B} {xs:List (A×B)} {b c q:Nat} {es:List TE} (k m:Nat) (ts:List Nat) {L' L'':Own} (hk:L[k]?=some (.map c,.mp K R xs)) (hL:zdM L k=some L') (hm:L'[m]?=some (.ptr b 0,.box es)) (hq:es[q]?=some (.raw (.map c))) (hL':zfn L' m (.ptr b 0,.box (es.set q (.val (zqS K R) xs)))=some L'') (hts:zhX Γ (.map c) ts) :
 ∀ z fr h,StZ C Γ L z fr h->∃ z',z.le z'/\StZ C (zfG ts (.val (zqS K R) xs) Γ) L'' z' fr h:=by
 intro z fr h s;obtain ⟨z',hz,s',hr⟩:=s.freezem hk hL;have s2:=s'.cell m hm hq (e':=.val (zqS K R) xs) (λv hv=>by simp only [TE.ok] at hv ⊢; rw [hv]; exact hr) hL';exact ⟨z',hz,{ s2 with fr:=zel (by simp only [TE.ok]; exact hr) hts s2.fr }⟩
theorem zwI {z:Store} {v:ze} {x:Unit} (h:TV zqU z v x):v=.nilslice:=by
 have h1:=h.rel;have h2:=h.agg;cases v<;>simp_all [zqU,ze.cells,ze.isAgg]
theorem zuk:∀ z v,(TE.val zqU ()).ok z v->(TE.raw .nilslice).ok z v:=λz v h=>by
 simp only [TE.ok] at h ⊢;exact zwI h
theorem zen {b q:Nat} {es:List TE} (m:Nat) {L':Own} (hm:L[m]?=some (.ptr b 0,.box es)) (hq:es[q]?=some (.val zqU ())) (hL:zfn L m (.ptr b 0,.box (es.set q (.raw .nilslice)))=some L') :
 ∀ z fr h,StZ C Γ L z fr h->∃ z',z.le z'/\StZ C Γ L' z' fr h:=zrY m hm hq zuk hL
end
end Go.Ai.Sx
/- Floats,tables in strings,arrays whose first elements are left out,slices that are made greater. -/
namespace Go.Ai.Sx
def zoE:List ze->Option ze
 | [.float .f64 b]=>(FloatKind.f64.format.sqrt b).map (ze.float .f64)
 | _=>none
theorem zul {b r:Nat} (h:FloatKind.f64.format.sqrt b=some r):zoE [.float .f64 b]=some (.float .f64 r):=by
 simp only [zoE,h,Option.map]
def f2i (b:Nat):Option Int:=match (FloatKind.f64.decode b).toInt .zero with
 | some n=>if IntKind.i64.min<=n/\n<=IntKind.i64.max then some n else none
 | none=>none
def zrZ {A:Type} (bytes:Nat) (n:Int) (x:A):Option (List A):=if 0<n/\n.toNat*bytes<=2 ^ 46/\n<=2 ^ 62 then some (List.replicate n.toNat x) else none
theorem zr0 {A:Type} {bytes:Nat} {n:Int} {x:A} {xs:List A} (h:zrZ bytes n x=some xs):(0<n/\n.toNat*bytes<=2 ^ 46/\n<=2 ^ 62)/\xs=List.replicate n.toNat x:=by
 unfold zrZ at h;split at h
 . rename_i q; cases h; exact ⟨q,rfl⟩
 . cases h
def zum {A B:Type} (es:List (A×B)):Option Int:=if es.length<=4611686018427387904 then some (es.length:Int) else none
def slz {A:Type} (xs:List A):Option Unit:=if xs.isEmpty then none else some ()
theorem zwJ {A:Type} {xs:List A} {u:Unit} (h:slz xs=some u):xs≠[]:=λe=>by subst e; cases h
section
variable {C:Ctx} {T:Tab} {d:Option (List Nat)} {ops rest:List Oper} {Γ:Env} {L:Own} {Q:zf->za->Prop} {P:zab->zf->za->Prop} {o:Oper} {t:Nat} {z:Store} {fr:zf} {h:za}
theorem zpC {v:ze} {z:Store}:TE.ok z (.raw v) v:=by simp only [TE.ok]
theorem zz9 {x:Operand} {v:ze} (hx:Opd Γ x (.raw v)):∀ z fr,zhz z Γ fr->[x].map fr.op=[v]:=λz fr hf=>by
 simp only [List.map,hx.raw hf]
theorem zAa {u u':TypeId} {k:IntKind} {x:Operand} {a:Int} (h1:(T.und u).isSome=true) (h2:T.und u'=some (.float .f64)) (hw:Want ops Γ true o.guard) (ho:o.op=.convert u u' x) (hd:o.dst=some t) (hx:Opd Γ x (.val (zj k) a))
 (r:zr C T d ops rest ((t,.raw (.float .f64 (FloatKind.f64.nearest a)))::Γ) L Q):zr C T d ops (o::rest) Γ L Q:=by
 refine zaj (by rw [ho]; rfl) hw hd (λz fr h s=>⟨.float .f64 (FloatKind.f64.nearest a), ?_,zpC⟩) r;rw [ho];cases e:T.und u with
 | none=>rw [e] at h1; cases h1
 | some q=>simp [aop,aconvert,hx.int s.fr,h2,e,zS]
theorem zAb {u u':TypeId} {x:Operand} {b:Nat} {a:Int} (h1:(T.und u).isSome=true) (h2:T.und u'=some (.int .i64)) (hf:f2i b=some a) (hw:Want ops Γ true o.guard) (ho:o.op=.convert u u' x) (hd:o.dst=some t) (hx:Opd Γ x (.raw (.float .f64 b)))
    (r:zr C T d ops rest ((t,.val (zj .i64) a)::Γ) L Q):zr C T d ops (o::rest) Γ L Q:=by
  unfold f2i at hf;cases e1:(FloatKind.f64.decode b).toInt .zero with
  | none=>rw [e1] at hf; cases hf
  | some n=>
    rw [e1] at hf;simp only at hf;split at hf
    case isFalse=>cases hf
    rename_i hr;cases hf;refine zaj (by rw [ho]; rfl) hw hd (λz fr h s=>⟨.int .i64 a, ?_,by simp only [TE.ok]; exact zbQ hr.1 hr.2⟩) r;rw [ho];cases e:T.und u with
    | none=>rw [e] at h1; cases h1
    | some q=>simp only [aop,aconvert,hx.raw s.fr,h2,e,e1,if_pos hr,zS,Option.map]
theorem zgH {s:ByteArray} {tbl:List Int} {st:TypeId} {y:Operand} {k:IntKind} {i a:Int} (hu:T.und st=some .string) (ht:s.data.toList.map (λb=>((b.toNat:Nat):Int))=tbl) (hi:idx tbl i=some a) (hw:Want ops Γ true o.guard) (ho:o.op=.index st (.const (.string s)) y) (hd:o.dst=some t) (hy:Opd Γ y (.val (zj k) i))
 (r:zr C T d ops rest ((t,.val (zj .u8) a)::Γ) L Q):zr C T d ops (o::rest) Γ L Q:=by
 obtain ⟨h0,h1,h2,h3⟩:=zfm hi;rw [← ht,List.getElem?_map,Option.map_eq_some_iff] at h3;obtain ⟨b,hb1,hb2⟩:=h3;have hb:s[i.toNat]?=some b:=by
  rw [← hb1];show s[i.toNat]?=s.data.toList[i.toNat]?;rw [Array.getElem?_toList];rfl
 refine zaj (by rw [ho]; rfl) hw hd (λz fr h s'=>⟨.int .u8 a, ?_, ?_⟩) r
 . rw [ho];simp only [aop,hy.int s'.fr];show zS h (aindex T st (.str s) (.int k i))=_;simp only [aindex,hu,h0,if_true,hb,Option.map,zS,hb2]
 . simp only [TE.ok];have:=b.toNat_lt;rw [← hb2];exact zbQ (by show (0:Int)<=_; omega) (by show _<=(255:Int); omega)
theorem znt {A:Type} {R:Rep A} {at_ et:TypeId} {n:Nat} {zc:List ze} {parts:Array (Nat×Operand)} {as:List A} (i0:Nat) (x0:A) (har:Ar1 T at_ et n R) (hz:zeR T at_=some (.agg zc)) (hzl:zc.length=n*R.sz) (hx:∀ z j,j<i0->R.rel z ((zc.drop (j*R.sz)).take R.sz) x0) (hw:Want ops Γ true o.guard) (ho:o.op=.build at_ parts) (hd:o.dst=some t) (he:Elts Γ R i0 parts.toList as) (hn:i0+as.length=n)
 (r:zr C T d ops rest ((t,.val (zjT n R) (List.replicate i0 x0++as))::Γ) L Q):zr C T d ops (o::rest) Γ L Q:=by
 refine zaj (by rw [ho]; rfl) hw hd (λz fr h s=>?_) r;obtain ⟨cells,h3,h4,h6,h5⟩:=zjW he s.fr har.pos zc (by rw [hzl,← hn]);refine ⟨.agg cells, ?_, ?_⟩
 . rw [ho];simp only [aop,abuild,hz,har.und,har.sz,ze.cells,h3,zS,Option.map]
 . simp only [TE.ok];have hl:(List.replicate i0 x0++as).length=n:=by rw [List.length_append,List.length_replicate,hn]
   have hp:∀ i x,(List.replicate i0 x0++as)[i]?=some x->R.rel z ((cells.drop (i*R.sz)).take R.sz) x:=λi x hx'=>by
    rw [List.getElem?_append,List.length_replicate] at hx';split at hx'
    . rename_i hlt;rw [List.getElem?_replicate,if_pos hlt] at hx';cases hx';rw [h6 i hlt];exact hx z i hlt
    . have:=h5 _ x hx';rwa [show i0+(i-i0)=i by omega] at this
   exact ⟨⟨hl,by simp only [ze.cells]; rw [h4,hzl],zix (l:=cells) har.pos (by rw [h4,hzl,hl]) hp,hp⟩,rfl⟩
theorem znu {A:Type} (R:Rep A) {n:Nat} (hl:look Γ n=some (.raw .nilslice)):∀ z fr h,StZ C Γ L z fr h->∃ z',z.le z'/\StZ C ((n,.val (zb R) [])::Γ) L z' fr h:=λz fr h s=>by
 have h1:=s.fr _ _ hl;simp only [TE.ok] at h1;exact ⟨z,.refl _,{ s with fr:=zl7 s.fr (by simp only [TE.ok]; rw [h1]; exact zbP zhm) }⟩
theorem zpD {x:Operand} {st et:TypeId} {ats:Array TypeId} (hu:T.und st=some (.slice et)) (hats:ats=#[st]) (hw:Want ops Γ true o.guard) (ho:o.op=.call ⟨.builtin .cap,#[x],ats⟩) (hd:o.dst=some t) (hx:Opd Γ x (.raw .nilslice))
 (r:zr C T d ops rest ((t,.val (zj .i64) 0)::Γ) L Q):zr C T d ops (o::rest) Γ L Q:=by
 subst hats;refine zaj (by rw [ho]; rfl) hw hd (λz fr h s=>⟨.int .i64 0, ?_,by simp only [TE.ok]; exact zbQ (by decide) (by decide)⟩) r;rw [ho];show abuiltin T .cap #[st] [fr.op x] h=_;simp only [abuiltin,hx.raw s.fr];show zS h (acap T st .nilslice)=_;simp only [acap,hu,zS,Option.map]
theorem zwK {x hi:Operand} {st et:TypeId} {n:Nat} (hu:T.und st=some (.slice et)) (hz:szT T et=some n) (hw:Want ops Γ true o.guard) (ho:o.op=.slice st x none (some hi) none) (hd:o.dst=some t) (hx:Opd Γ x (.raw .nilslice)) (hh:Opd Γ hi (.val (zj .i64) 0))
 (r:zr C T d ops rest ((t,.raw .nilslice)::Γ) L Q):zr C T d ops (o::rest) Γ L Q:=by
 refine zaj (by rw [ho]; rfl) hw hd (λz fr h s=>⟨.nilslice, ?_,zpC⟩) r;rw [ho];simp only [aop,hx.raw s.fr,hh.int s.fr,aslice,hu,hz,Option.map];rfl
theorem zyY {A:Type} {R:Rep A} {bytes:Nat} {st et xt:TypeId} {x0:A} {x y:Operand} {ats:Array TypeId} {n:Int} (hsl:Sl T st et R) (hty:Ty T et R bytes) (hz:Zr T et R x0) (hxt:T.und xt=some (.int .i64)) (hne:Nat.beq st xt=false) {xs:List A} (hn':zrZ bytes n x0=some xs) (hats:ats=#[st,xt]) (hw:Want ops Γ true o.guard) (ho:o.op=.call ⟨.builtin .append,#[x,y],ats⟩) (hd:o.dst=some t) (hx:Opd Γ x (.raw .nilslice)) (hy:Opd Γ y (.val (zj .i64) n)) (hls:d=none)
 (r:∀ v,zr C T d ops rest ((t,.raw v)::Γ) ((v,.row R xs)::L) Q):zr C T d ops (o::rest) Γ L Q:=by
 obtain ⟨hn,rfl⟩:=zr0 hn';subst hats hls;intro fr h ⟨z,s⟩;obtain ⟨i,h1,h2,h3⟩:=hty.info;obtain ⟨zv,h4,h5⟩:=hz.zero;have h5:=h5 z;have hlen:=R.len _ _ _ h5.rel;have hst:st≠xt:=λe=>by subst e; simp at hne
 have ha:aop T fr.op h o.op=some (.val (.slice h.next 0 n.toNat R.sz none) (h.push (.arr (copies n.toNat zv.cells) false))):=by
  rw [ho];show abuiltin T .append #[st,xt] [fr.op x,fr.op y] h=_;simp only [abuiltin,aappend];rw [if_pos hst,hx.raw s.fr,hy.int s.fr];simp only [azeros,hxt,hsl.und,h1,h4];rw [h2,h3,if_neg (by rw [hlen]; have:=hty.pos; omega),if_pos hn];rfl
 simp only [wX,hw.ok s.fr,ha,hd,zaI];refine r _ _ _ ⟨z,(s.pushOwn _ rfl ?_).set zpC⟩;simp only [Obj.ok];have hcl:(copies n.toNat zv.cells).length=n.toNat*R.sz:=by rw [zem,hlen]
 refine ⟨by rw [List.length_replicate]; simp only [maxLen]; omega,.inr ⟨h.next,0,none,copies n.toNat zv.cells,by rw [List.length_replicate],by rw [za.get_push,if_pos rfl],by rw [List.length_replicate]; omega,λc hc=>(nomatch hc),λi x' hx=>?_⟩⟩;have hi:=(List.getElem?_eq_some_iff.1 hx).1;rw [List.length_replicate] at hi;rw [List.getElem?_replicate,if_pos hi] at hx;cases hx;rw [Nat.zero_add,← hlen,zgD _ hi];exact h5.rel
theorem zyZ {A:Type} {R:Rep A} {xs:List A} {x hi:Operand} {st et:TypeId} {v:ze} (kk:Nat) (hsl:Sl T st et R) (h0:xs≠[]) (hw:Want ops Γ true o.guard) (ho:o.op=.slice st x none (some hi) none) (hd:o.dst=some t)
    (hx:Opd Γ x (.raw v)) (hk:L[kk]?=some (v,.row R xs)) (hh:Opd Γ hi (.val (zj .i64) 0)) {L':Own} (hL:zdM L kk=some L') (r:∀ v',zr C T d ops rest ((t,.raw v')::Γ) ((v',.row R ([]:List A))::L') Q):zr C T d ops (o::rest) Γ L Q:=by
  refine zps (e:=λv'=>.raw v') (L':=λv'=>(v',.row R [])::L') (nf (by rw [ho]; rfl)) (λ_ _ _ _=>nfo (by rw [ho]; rfl)) hw hd (λz fr h s=>?_) r;have hp:=zek hk hL;have hr:=s.own.ok _ (List.mem_of_getElem? hk);simp only [Obj.ok] at hr;rcases hr.2 with ⟨_,q⟩ | ⟨b,off,cap,cells,rfl,g1,g2,g3,g4⟩
  · exact absurd q h0
  · refine ⟨.slice b off 0 R.sz cap,h,.slice b off 0 R.sz cap, ?_,s.repack (L':=(.slice b off 0 R.sz cap,.row R [])::L') ?_ (λp hp'=>?_),by simp only [TE.ok]⟩
    · rw [ho];simp only [aop,hx.raw s.fr,hh.int s.fr,aslice,hsl.und,hsl.sz,Option.map];rw [if_pos (by exact ⟨trivial,hsl.pos⟩)];have a2:∀ m:Nat,abound (some (.int .i64 0)) xs.length m=some 0:=λm=>by simp [abound]
      cases cap with
      | none=>
        simp only [a2];simp [abound,zS]
      | some c=>
        simp only [a2];simp [abound,zS]
    · refine List.Perm.trans (List.Perm.of_eq ?_) (zrK hp);rw [z8,z8]; rfl
    · rcases List.mem_cons.1 hp' with rfl | hp'
      · simp only [Obj.ok];exact ⟨by simp [maxLen],.inr ⟨b,off,cap,cells,rfl,g1,by simp; omega,λc hc=>⟨by simp,(g3 c hc).2⟩,λi x hx=>by simp at hx⟩⟩
      · exact s.own.ok p (hp.mem_iff.1 (List.mem_cons_of_mem _ hp'))
theorem zy0 {A B:Type} {K:Rep A} {R:Rep B} {x:Operand} {st kt et:TypeId} {ats:Array TypeId} {b:Nat} {es:List (A×B)} {n:Int} (kk:Nat) (hls:d=none) (hu:T.und st=some (.map kt et)) (hn:zum es=some n) (hats:ats=#[st]) (hk:L[kk]?=some (.map b,.mp K R es)) (hw:Want ops Γ true o.guard) (ho:o.op=.call ⟨.builtin .len,#[x],ats⟩) (hd:o.dst=some t) (hx:Opd Γ x (.raw (.map b)))
 (r:zr C T d ops rest ((t,.val (zj .i64) n)::Γ) L Q):zr C T d ops (o::rest) Γ L Q:=by
 subst hats hls;unfold zum at hn;split at hn
 case isFalse=>cases hn
 rename_i hb;cases hn;intro fr h ⟨z,s⟩;have hob:=s.own.ok _ (List.mem_of_getElem? hk);simp only [Obj.ok] at hob;obtain ⟨b',l,e,g1,g2,g3⟩:=hob;cases e;have ha:aop T fr.op h o.op=some (.val (.int .i64 es.length) h):=by
  rw [ho];show abuiltin T .len #[st] [fr.op x] h=_;simp only [abuiltin,hx.raw s.fr];show zS h (alen T st (.map b) h)=_;simp only [alen,hu,g1,zS,Option.map,g2]
 simp only [wX,hw.ok s.fr,ha,hd,zaI];refine r _ _ ⟨z,s.set (by simp only [TE.ok]; exact zbQ (by show (-9223372036854775808:Int)<=_; omega) (by show _<=(9223372036854775807:Int); omega))⟩
end
end Go.Ai.Sx
/- An abstract interpreter for the model's code: places that code leaves alone; functions that defer a closure. -/
namespace Go.Ai
def znv (t:Nat) (o:Oper):Bool:=match o.dst with
 | some d=>!(Nat.beq d t)
 | none=>true
def zhq (t:Nat):Code->Bool
 | .region _ ops _=>ops.toList.all (znv t)
 | .seq a b=>zhq t a&&zhq t b
 | .cond _ a b=>zhq t a&&zhq t b
 | .block _ c=>zhq t c
 | .loop c=>zhq t c
 | .scope c=>zhq t c
 | _=>true
theorem zjo {t:Nat} {o:Oper} (h:znv t o=true) (fr:zf) (v:ze):(putDst fr o.dst v).ev t=fr.ev t:=by
 unfold znv at h;unfold putDst;cases hd:o.dst with
 | none=>rfl
 | some d=>
  rw [hd] at h;have hne:¬ t=d:=λe=>by subst e; simp at h
  simp only [];rw [zf.ev_set,if_neg hne]
section
variable {T:Tab} {t:Nat}
theorem zkc {call:Caller} {ops:List Oper}:∀ (rest:List Oper) (fr:zf) (h:za) (e:zab) (fr':zf) (h':za),aops T call ops rest fr h=some (e,fr',h')->rest.all (znv t)=true->fr'.ev t=fr.ev t
 | [],fr,h,e,fr',h',hl,_=>by simp only [aops] at hl; cases hl; rfl
 | o::rest,fr,h,e,fr',h',hl,ha=>by
  rw [List.all_cons,Bool.and_eq_true] at ha;simp only [aops] at hl;split at hl
  . split at hl
    . rw [zkc rest _ _ _ _ _ hl ha.2,zjo ha.1]
    . cases hl; rfl
    . cases hl
  . rw [zkc rest _ _ _ _ _ hl ha.2,zjo ha.1]
  . cases hl
theorem ziD {call:Caller} {ops:List Oper}:∀ (rest:List Oper) (i:Nat) (done:List (Nat×Foot)) (fr:zf) (h:za) (fr':zf) (h':za),adraw T call ops rest i done fr h=some (fr',h')->rest.all (znv t)=true->fr'.ev t=fr.ev t
 | [],i,done,fr,h,fr',h',hl,_=>by simp only [adraw] at hl; cases hl; rfl
 | o::rest,i,done,fr,h,fr',h',hl,ha=>by
  rw [List.all_cons,Bool.and_eq_true] at ha;simp only [adraw] at hl;split at hl
  . split at hl
    . rename_i v h1 _;cases hf:zca ops i (zfg (foot fr.op o) h h1) done with
      | false=>rw [hf] at hl; cases hl
      | true=>
       rw [hf] at hl;simp only [cond_true] at hl;rw [ziD rest _ _ _ _ _ _ hl ha.2,zjo ha.1]
    . cases hl
  . rw [ziD rest _ _ _ _ _ _ hl ha.2,zjo ha.1]
  . cases hl
theorem zgY:∀ (n:Nat) (c:Code) (fr:zf) (h:za) (e:zab) (fr':zf) (h':za),aexec T n c fr h=some (e,fr',h')->zhq t c=true->fr'.ev t=fr.ev t
 | 0,_,_,_,_,_,_,hl,_=>by simp [aexec] at hl
 | n+1,c,fr,h,e,fr',h',hl,hc=>by
  have ih:=zgY n;cases c with
  | skip=>simp only [aexec] at hl; cases hl; rfl
  | label l=>simp only [aexec] at hl; cases hl; rfl
  | exit l=>simp only [aexec] at hl; cases hl; rfl
  | goto l=>simp only [aexec] at hl; cases hl; rfl
  | ret=>simp only [aexec] at hl; cases hl; rfl
  | refuse _=>simp [aexec] at hl
  | region id ops draw=>
   rw [aexec] at hl;cases draw with
   | true=>
    simp only [if_true] at hl;split at hl
    ·rename_i hd; cases hl; exact ziD _ _ _ _ _ _ _ hd hc
    ·cases hl
   | false=>
    simp only [Bool.false_eq_true,if_false] at hl;exact zkc _ _ _ _ _ _ hl hc
  | seq a b=>
   simp only [zhq,Bool.and_eq_true] at hc;rw [aexec] at hl;split at hl
   ·rename_i h1;rw [ih _ _ _ _ _ _ hl hc.2,ih _ _ _ _ _ _ h1 hc.1]
   ·exact ih _ _ _ _ _ _ hl hc.1
  | cond x a b=>
   simp only [zhq,Bool.and_eq_true] at hc;rw [aexec] at hl;split at hl
   ·rename_i q _;exact ih _ _ _ _ _ _ hl (by cases q<;>simp [hc])
   ·cases hl
  | block id c=>
   rw [aexec] at hl;split at hl
   ·rename_i h1;split at hl<;>cases hl<;>exact ih _ _ _ _ _ _ h1 hc
   ·exact ih _ _ _ _ _ _ hl hc
  | loop c=>
   rw [aexec] at hl;split at hl
   ·rename_i h1;rw [ih _ _ _ _ _ _ hl hc,ih _ _ _ _ _ _ h1 hc]
   ·exact ih _ _ _ _ _ _ hl hc
  | scope c=>
   rw [aexec] at hl;split at hl
   ·cases hl
   ·exact ih _ _ _ _ _ _ hl hc
  | rangeFunc f params assign body=>
   rw [aexec] at hl;repeat' split at hl
   all_goals first | (cases hl; done) | (cases hl; rfl)
theorem zpE:∀ (l:List Code) (z:Code) (n:Nat) (fr:zf) (h:za) (e:zab) (fr':zf) (h':za),aexec T n (l.foldr Code.seq z) fr h=some (e,fr',h') ->
    (∃ fr1 h1,aseqs (aexec T n) l fr h=some (.normal,fr1,h1)/\aexec T n z fr1 h1=some (e,fr',h'))\/(aseqs (aexec T n) l fr h=some (e,fr',h')/\e≠.normal)
  | [],z,n,fr,h,e,fr',h',hl=>.inl ⟨fr,h,rfl,hl⟩
  | c::l,z,n,fr,h,e,fr',h',hl=>by
    cases n with
    | zero=>simp [aexec] at hl
    | succ n=>
      have up:∀ c fr h r,aexec T n c fr h=some r->aexec T (n+1) c fr h=some r:=zbx (Nat.le_succ n);rw [List.foldr_cons,aexec] at hl;cases h1:aexec T n c fr h with
      | none=>rw [h1] at hl; cases hl
      | some out=>
        obtain ⟨e1,fr1,ha1⟩:=out;rw [h1] at hl;simp only [aseqs,up _ _ _ _ h1];by_cases hn:e1=.normal
        · subst hn;simp only at hl ⊢;exact zpE l z (n+1) fr1 ha1 e fr' h' (up _ _ _ _ hl)
        · have hq:some (e1,fr1,ha1)=some (e,fr',h'):=by
            cases e1<;>first | (exact absurd rfl hn) | exact hl
          cases hq;right;refine ⟨?_,hn⟩;cases e<;>first | (exact absurd rfl hn) | rfl
theorem zln {n:Nat}:∀ (l:List Code) (fr:zf) (h:za) (e:zab) (fr':zf) (h':za),aseqs (aexec T n) l fr h=some (e,fr',h')->l.all (zhq t)=true->fr'.ev t=fr.ev t
 | [],fr,h,e,fr',h',hl,_=>by simp only [aseqs] at hl; cases hl; rfl
 | c::l,fr,h,e,fr',h',hl,hc=>by
  rw [List.all_cons,Bool.and_eq_true] at hc;simp only [aseqs] at hl;split at hl
  . rename_i h1;rw [zln l _ _ _ _ _ hl hc.2,zgY n _ _ _ _ _ _ h1 hc.1]
  . exact zgY n _ _ _ _ _ _ hl hc.1
theorem zun {g:FuncId} {D:zbO} {vs:List ze} {h:za} {Q:zg3->za->Prop} (hF:T.funcs.get g=none) (hD:T.defs.get g=some D) (hn:Nat.blt D.ntmps vs.length=false) (hv:vs.length<=D.tmp)
    (hm:∃ fn a b,D.mko.op=.makeFunc fn a b) (hd:D.mko.dst=some D.tmp) (hg:D.mko.guard=none) (hs0:D.pre.all (zhq D.tmp)=true) (hs:zhq D.tmp D.post=true)
    (hnil:∀ fr h x h2,aop T fr h D.mko.op=some (.val x h2)->∀ h3,∃ m,aclose (aexec T m) D x .niliface h3=some h3)
    (r:Run T (D.pre.foldr Code.seq (.seq (.region D.id #[D.mko] false) D.post)) (zaz 0 vs .leaf) h λe fr h'=>
      (e=.ret/\∃ us,aresults T D.results fr h'=some us/\Q (.ret (packed us)) h')\/∃ v,e=.pan v/\∃ m h4,aclose (aexec T m) D (fr.ev D.tmp) v h'=some h4/\∃ us,aresults T D.results fr h4=some us/\Q (.ret (packed us)) h4):ziq T g vs h Q:=by
  obtain ⟨n,e,fr,h',h1,h2⟩:=r;have fin:∀ m r h4,zgk T (aexec T m) D vs h=some (r,h4)->Q r h4->ziq T g vs h Q:=λm r h4 q1 q2=>⟨m,r,h4,by unfold zdH; simp only [hF,hD]; exact q1,q2⟩;rcases zpE D.pre _ n _ _ _ _ _ h1 with ⟨fr1,ha1,s1,s2⟩ | ⟨s1,s2⟩;rotate_left
  · rcases h2 with ⟨rfl,us,h3,h4⟩ | ⟨v,rfl,m,h4,h5,us,h6,h7⟩
    · refine fin n (.ret (packed us)) h' ?_ h4;unfold zgk aend;simp only [hn,cond_false,s1,h3]
    · exfalso;have e1:=zln D.pre _ _ _ _ _ s1 hs0;rw [argFrame_ev,if_pos (Nat.zero_le _),List.getElem?_eq_none (by omega)] at e1;have e2:fr.ev D.tmp=.undef:=e1.trans rfl;rw [e2] at h5;simp [aclose] at h5
  · obtain ⟨fn,a,b,hop⟩:=hm;cases n with
    | zero=>simp [aexec] at s2
    | succ k=>
    rw [aexec] at s2;cases k with
    | zero=>simp [aexec] at s2
    | succ j=>
    have hreg:aexec T (j+1) (.region D.id #[D.mko] false) fr1 ha1=aops T (acall T (aexec T j)) [D.mko] [D.mko] fr1 ha1:=by rw [aexec]; rfl
    rw [hreg] at s2;simp only [aops,hg,awanted,astep] at s2;cases ha:aop T fr1.op ha1 D.mko.op with
    | none=>
      rw [ha,hop] at s2;simp [apanic] at s2
    | some an=>
    cases an with
    | call f as=>
      rw [hop] at ha;simp only [aop,zct] at ha;split at ha<;>cases ha
    | val x h3=>
    rw [ha] at s2;simp only [hd,zaI] at s2;have hx:zf.ev (Tr.set fr1 D.tmp x) D.tmp=x:=by rw [zf.ev_set,if_pos rfl]
    rcases h2 with ⟨rfl,us,h4,h5⟩ | ⟨v,rfl,m,h4,h5,us,h6,h7⟩
    · obtain ⟨m,hc⟩:=hnil _ _ _ _ ha h';refine fin (max (j+2) m) (.ret (packed us)) h' ?_ h5;unfold zgk;simp only [hn,cond_false,zhM (zbx (Nat.le_max_left (j+2) m)) _ _ _ _ s1,ha,zbx (Nat.le_trans (Nat.le_succ (j+1)) (Nat.le_max_left (j+2) m)) _ _ _ _ s2,zhN (zbx (Nat.le_max_right (j+2) m)) hc];unfold aback aend;simp only [h4]
    · have e1:=zgY _ _ _ _ _ _ _ s2 hs;rw [hx] at e1;rw [e1] at h5;refine fin (max (j+2) m) (.ret (packed us)) h4 ?_ h7;unfold zgk;simp only [hn,cond_false,zhM (zbx (Nat.le_max_left (j+2) m)) _ _ _ _ s1,ha,zbx (Nat.le_trans (Nat.le_succ (j+1)) (Nat.le_max_left (j+2) m)) _ _ _ _ s2,zhN (zbx (Nat.le_max_right (j+2) m)) h5];unfold aback aend;simp only [h6]
end
def dcut:Code->Option (List Code×Nat×Oper×Oper×Code)
 | .seq a z=>match a with
  | .region id ops draw=>match draw,ops.toList with
   | false,[mk,d]=>match d.op with
    | .defer _=>some ([],id,mk,d,z)
    | _=>(dcut z).map λr=>(a::r.1,r.2)
   | _,_=>(dcut z).map λr=>(a::r.1,r.2)
  | _=>(dcut z).map λr=>(a::r.1,r.2)
 | _=>none
def zeV : Oper := { dst := none, op := .move (.tmp 0), type := 0, pos := "", after := #[], guard := none }
def zAc (F G:Func) (fn:FuncId) (tmp p1 p2:Nat):zbO:=
 match F.body with
 | some c=>match dcut c with
  | some (l,id,mk,d,z)=>match G.body with
   | some (.seq (.region cid gops _) rest)=>match gops.toList with
    | [r,m]=>⟨F.ntmps,F.results.toList,l,id,mk,tmp,d,z,fn,G.ntmps,cid,r,m,p1,p2,rest⟩
    | _=>⟨0,[],[],0,zeV,0,zeV,.skip,0,0,0,zeV,zeV,0,0,.skip⟩
   | _=>⟨0,[],[],0,zeV,0,zeV,.skip,0,0,0,zeV,zeV,0,0,.skip⟩
  | none=>⟨0,[],[],0,zeV,0,zeV,.skip,0,0,0,zeV,zeV,0,0,.skip⟩
 | none=>⟨0,[],[],0,zeV,0,zeV,.skip,0,0,0,zeV,zeV,0,0,.skip⟩
end Go.Ai
/- Iterators that own a box: a function that makes one,and ranging over it. -/
namespace Go.Ai.Sx
theorem zoF {A B:Own} {ks:List Nat}:picks (A++B) (ks.map (·+A.length))=picks B ks:=by
 induction A with
 | nil=>simp
 | cons a A ih=>
  have e:(ks.map (·+(a::A).length))=(ks.map (·+A.length)).map (·+1):=by rw [List.map_map]; rfl
  rw [e,List.cons_append,zfa,ih]
theorem ziE {B:Own}:∀ {A:Own},picks (A++B) (List.range A.length)=A
 | []=>rfl
 | x::A=>by
  rw [List.length_cons,List.range_succ_eq_map,List.cons_append];simp only [picks,List.getElem?_cons_zero];have e:(List.range A.length).map Nat.succ=(List.range A.length).map (·+1):=rfl;rw [e,zfa,ziE]
def zAd (T:Tab) (g:FuncId) (as:List TE) (g2:FuncId) (es cs:List TE):Prop:=
 ∀ z h vs,z.Sub h->h.wm<=h.next->zz z as vs->ziq T g vs h λr h'=>∃ b us z',r=.ret (.func (.func g2) [] (.ptr b 0::us))/\Quiet h h'/\z.le z'/\z'.Sub h'/\(∀ b,b<h.next->z' b=z b)/\zz z' cs us/\zfk ⟨z,h,[]⟩ z' h' [(.ptr b 0,.box es)]
def zA5 (C:Ctx) (T:Tab) (res:List ResultVar) (g2:FuncId) (es cs:List TE) (e:zab) (fr:zf) (h:za):Prop:=
 (e=.normal\/e=.ret)/\∃ b us z,aresults T res fr h=some [.func (.func g2) [] (.ptr b 0::us)]/\C.z0.le z/\z.Sub h/\(∀ b,b<C.h0.next->b∉C.B0->z b=C.z0 b)/\zz z cs us/\zfk C z h [(.ptr b 0,.box es)]/\Chg C h
section
variable {C:Ctx} {T:Tab} {d:Option (List Nat)} {ops rest:List Oper} {Γ:Env} {L:Own} {Q:zf->za->Prop} {P:zab->zf->za->Prop} {o:Oper} {t:Nat} {z:Store} {fr:zf} {h:za}
theorem zwL {e:zab} {g2:FuncId} {es cs:List TE} {t b:Nat} (k:Nat) (he:e=.normal\/e=.ret) (hl:look Γ t=some (.val (zoz g2 [] (.raw (.ptr b 0)::cs)) ())) (hk:L[k]?=some (.ptr b 0,.box es)):∀ fr h,St C Γ L fr h->zA5 C T [.tmp t] g2 es cs e fr h:=by
 intro fr h ⟨z,s⟩;have h1:=s.fr _ _ hl;simp only [TE.ok] at h1;obtain ⟨us,vs,ev,h2,h3⟩:=zj5 h1;simp only [zz] at h2;subst h2;simp only [zz,TE.ok] at h3;obtain ⟨v,vs',rfl,rfl,h4⟩:=h3;refine ⟨he,b,vs',z,by simp only [aresults,aresult,ev],s.zle,s.sub,s.old,h4, ?_,s.chg⟩;have hp:picks L [k]=[(.ptr b 0,.box es)]:=by simp only [picks,hk]
 rw [← hp];exact ⟨λp hp=>s.own.ok p (zbh hp),λp hp=>s.own.out p (zbh hp),zcm s.own.nodup (by simp)⟩
theorem zwM {g g2:FuncId} {F:Func} {c:Code} {as es cs:List TE} (hF:T.funcs.get g=some F) (hb:F.body=some c) (hn:Nat.blt F.ntmps as.length=false) (run:∀ C,C.B0=[]->zdX C T c (entry 0 as) [] (zA5 C T F.results.toList g2 es cs)):zAd T g as g2 es cs:=by
 intro z h vs hsub hwm hok;refine zlV hF hb (by rw [zaW hok]; exact hn) ?_;have s0:StZ ⟨z,h,[]⟩ (entry 0 as) [] z (zaz 0 vs .leaf) h:=
  { zle:=.refl _,sub:=hsub,old:=λ_ _ _=>rfl,fr:=zge hok,own:=⟨λp hp=>(nomatch hp),λp hp=>(nomatch hp),List.nodup_nil⟩,chg:=⟨Nat.le_refl _,λ_ _ _=>rfl,λ_ m1 _ _=>m1,hwm⟩ }
 refine (run ⟨z,h,[]⟩ rfl _ _ ⟨z,s0⟩).mono λe fr h' ⟨he,b,us,z',h1,h3,h4,h5,h6,h7,h8⟩=>⟨he,_,h1,b,us,z',rfl, ?_,h3,h4,λb hb=>h5 b hb (λq=>nomatch q),h6,h7⟩;exact ⟨h8.next,λb hb=>h8.same b hb (λq=>nomatch q),h8.wm _ (Nat.min_le_left _ _) (Nat.min_le_right _ _) (λ_ q=>nomatch q),λ_=>h8.ok⟩
theorem zwN {c:Call} {x:Operand} {g g2:FuncId} {as es cs:List TE} (hf:zAd T g as g2 es cs) (hcst:T.consts.get g=none) (hw:Want ops Γ true o.guard) (ho:o.op=.call c) (hd:o.dst=some t) (hc:c.callee=.value x) (hx:Opd Γ x (.raw (.func (.func g) [] []))) (hvs:Opds Γ c.args.toList as)
    (r:∀ b,zr C T d ops rest ((t,.val (zoz g2 [] (.raw (.ptr b 0)::cs)) ())::Γ) ((.ptr b 0,.box es)::L) Q):zr C T d ops (o::rest) Γ L Q:=by
  have te:∀ {z':Store} {b:Nat} {us:List ze},zz z' cs us->(TE.val (zoz g2 [] (.raw (.ptr b 0)::cs)) ()).ok z' (.func (.func g2) [] (.ptr b 0::us)):=λhok=>by
    simp only [TE.ok];exact ⟨⟨_,_,rfl,by simp only [zz],by simp only [zz,TE.ok]; exact ⟨_,_,rfl,rfl,hok⟩⟩,rfl⟩
  cases d with
  | none=>
    intro fr h ⟨z,s⟩;have ha:aop T fr.op h o.op=some (.call (.func (.func g) [] []) (c.args.toList.map fr.op)):=by rw [ho]; simp only [aop,zcu,hc,hx.raw s.fr]
    simp only [wX,hw.ok s.fr,ha,hd,zaI];refine zcw hcst ?_;rw [List.nil_append,List.append_nil];refine (hf z h _ s.sub s.chg.ok (hvs.ok s.fr)).mono λr' h' ⟨b,us,z',e1,q,hz,hs,hold,hok,hown⟩=>⟨_,e1, ?_⟩;have s':=s.after q hz hs hold hown;exact r b _ _ ⟨z',s'.set (te hok)⟩
  | some ol=>
    intro z fr h i done s hr hok hdn;have ha:aop T fr.op h o.op=some (.call (.func (.func g) [] []) (c.args.toList.map fr.op)):=by rw [ho]; simp only [aop,zcu,hc,hx.raw s.fr]
    have hi:ops[i]?=some o:=by have:=congrArg (λl=>l[0]?) hr; simpa using this
    have hlt:i<ops.length:=(List.getElem?_eq_some_iff.1 hi).1;have hr':ops.drop (i+1)=rest:=by have:=congrArg List.tail hr; simpa using this
    obtain ⟨c',fo,hoc,hcc,_⟩:=zcH ha;have n1:zcZ o.op=false:=by rw [hoc]; simp only [zcZ,hcc]
    have n2:zjR o.op=false:=by rw [hoc]; simp only [zjR,hcc]
    have sl:StZ C Γ L z fr (lay h h.next):=s.low (Nat.le_refl _) (λm _ m2 _=>Nat.le_trans m2 s.chg.next);refine zjP (hw.ok s.fr) ha s.chg.ok (zfB hi hdn (zgA hok i hlt) rfl ⟨λb hb=>(nomatch hb),λb hb=>(nomatch hb)⟩ (λq=>by rw [n1] at q; cases q) (λq=>by rw [n2] at q; cases q) (λ_=>rfl) (λt et y q=>by rw [hoc] at q; cases q) (λt a q=>by rw [hoc] at q; cases q) (λq=>by rw [hoc] at q; simp [zhl,hcc] at q)) ?_;refine zcw hcst ?_;rw [List.nil_append,List.append_nil];refine (hf z (lay h h.next) _ sl.sub (Nat.le_refl _) (hvs.ok s.fr)).mono λr' h' ⟨b,us,z',e1,q,hz,hs,hold,hok',hown⟩=>⟨_,e1,q, ?_⟩;have s':=sl.after q hz hs hold hown;have s'':StZ C Γ ([(.ptr b 0,.box es)]++L) z' fr (lay h' (min h.wm h'.wm)):=s'.low (by have:=s'.chg.ok; omega) (λm m1 m2 m3=>by have h1:=s.chg.wm m m1 m2 m3; have h2:=s'.chg.wm m m1 m2 m3; omega);have hn:=hdn.next (z':=z') (h':=lay h' (min h.wm h'.wm)) (v:=.func (.func g2) [] (.ptr b 0::us)) hi hz q.next [(i,⟨[],true,[],false⟩)] (λp hp=>by
      rw [List.mem_singleton] at hp;subst hp;refine ⟨rfl,rfl,λ_=>rfl,λq=>(by rw [hoc] at q; cases q),λb hb=>(by simp at hb),λq=>?_⟩;unfold zeh at q;rw [n1,hoc] at q;simp [zor,zna,hcc] at q) (λhal=>(ziv hal ha).elim) (λr q=>by rw [hoc] at q; cases q) (λp _ t a q=>by rw [hoc] at q; cases q) (λp _ q=>by rw [hoc] at q; simp [zhl,hcc] at q) (λp _ t a y q=>by rw [hoc] at q; cases q)
    rw [hd,zaI] at hn ⊢;exact r b z' _ _ (i+1) _ (s''.set (te hok')) hr' hok hn
theorem zr1 {g:FuncId} {as:List TE} {L0:Own} {rs:List RE} {F:List ze->ze×Obj} {X:List ze->Own} (h:zjn T g as L0 rs λγ=>F γ::X γ):zjn T g as L0 rs λγ=>[F γ]:=λz hp vs h1 h2 h3 h4=>
 (h z hp vs h1 h2 h3 h4).mono λ_ _ ⟨us,z',γ,q1,q2,q3,q4,q5,q6,q7,q8⟩=>⟨us,z',γ,q1,q2,q3,q4,q5,q6,q7,by
  have e:picks (owns rs us++F γ::X γ) (List.range (owns rs us++[F γ]).length)=owns rs us++[F γ]:=by
   rw [show owns rs us++F γ::X γ=(owns rs us++[F γ])++X γ by simp];exact ziE
  rw [← e];exact ⟨λp hp=>q8.ok p (zbh hp),λp hp=>q8.out p (zbh hp),zcm q8.nodup List.nodup_range⟩⟩
theorem zuo {σ τ X:Type} {ins:X->List TE} {step:σ->X->Option (σ⊕τ)} (I:σ⊕τ->List ze->Own) (E:τ->Option Nat) {f:Operand} {params:Array Nat} {assign body:Code} {g:FuncId} {ps cs:List TE} {s0:σ} {r:σ⊕τ} {Lr Lx:Own} (γ0:List ze) (ks xs js:List Nat)
    (hcst:T.consts.get g=none) (hf:Opd Γ f (.val (zoz g ps cs) ())) (h0:picks L ks=I (.inl s0) γ0) (hx:picks L xs=Lx) (hr:picks L js=Lr) (hn:(ks++(xs++js)).Nodup) (hp:∀ x,(ins x).length=params.size)
    (hit:∀ (yv:ze) (K:σ⊕τ->List ze->Obj),zua T yv ins step K->∀ γ,zjn T g (ps++[.raw yv]++cs) ((yv,K (.inl s0) γ)::Lx) [] λγ'=>[(yv,K r γ')])
    (hb:∀ s γ x r,step s x=some r->∀ C,zdX C T assign (zud params.toList (ins x) Γ) (I (.inl s) γ) (zz6 C T body I E r))
    (out:∀ γ fr h,St C Γ (I r γ++Lr) fr h->P (znn E r) fr h):zdX C T (.rangeFunc f params assign body) Γ L P:=by
  subst hr hx;intro fr h ⟨z,s⟩;obtain ⟨us0,vs0,ev,hps,hcs⟩:=zj5 (hf.val s.fr);have hpk:StZ C Γ (I (.inl s0) γ0++(picks L xs++picks L js)) z fr h:=by
    have e:picks L (ks++(xs++js))=I (.inl s0) γ0++(picks L xs++picks L js):=by rw [zfR,zfR,h0]
    rw [← e];exact { s with own:=⟨λp hp=>s.own.ok p (zbh hp),λp hp=>s.own.out p (zbh hp),zcm s.own.nodup hn⟩ }
  generalize picks L js=Lr at hpk out;generalize picks L xs=Lx at hpk hit
  let B:zhA:={ state:=.ready,pending:=none,fr:=fr,params:=params.toList,assign:=assign,body:=body }
  have cb:zua T (.func (.yield h.next) [] []) ins step (zgo h.next B Γ I E):=zpz (by simpa using hp) hb;have s2:StZ C Γ ((.func (.yield h.next) [] [],.cb [h.next] λ_ h'=>h'.get h.next=some (.loop B))::(I (.inl s0) γ0++(Lx++Lr))) z fr (h.push (.loop B)):=
    hpk.pushOwn (.loop B) rfl ⟨by show (h.push (.loop B)).get h.next=_; rw [za.get_push,if_pos rfl],λ_ _ h1 h1' _ hb q=>by
      have q:h1.get h.next=some (.loop B):=q;show h1'.get h.next=_;rw [hb _ (List.mem_singleton.2 rfl)]; exact q⟩
  have s3:StZ C Γ ((.func (.yield h.next) [] [],zgo h.next B Γ I E (.inl s0) γ0)::(Lx++Lr)) z fr (h.push (.loop B)):=by
    refine s2.repack (List.Perm.of_eq ?_) λp hp'=>?_
    · rw [z8,z8];show (h.next::blks (I (.inl s0) γ0))++blks (Lx++Lr)=[h.next]++blks (I (.inl s0) γ0++(Lx++Lr));simp [blks]
    · rcases List.mem_cons.1 hp' with rfl | hp'
      · exact zj6 (λp hp=>s2.own.ok p (List.mem_cons_of_mem _ (List.mem_append_left _ hp))) (by rw [za.get_push,if_pos rfl]; rfl) s.fr
      · exact s2.own.ok p (List.mem_cons_of_mem _ (List.mem_append_right _ hp'))
  let yo:ze×Obj:=(.func (.yield h.next) [] [],zgo h.next B Γ I E (.inl s0) γ0)
  have hks:picks ((yo::Lx)++Lr) (List.range (yo::Lx).length)=yo::Lx:=ziE;have hjs:picks ((yo::Lx)++Lr) ((List.range Lr.length).map (·+(yo::Lx).length))=Lr:=by rw [zoF,zj7]
  have hnd:(List.range (yo::Lx).length++(List.range Lr.length).map (·+(yo::Lx).length)).Nodup:=by
    refine List.nodup_append.2 ⟨List.nodup_range,List.Pairwise.map _ (λa b q e=>q (by omega)) List.nodup_range,λa ha b hb e=>?_⟩;obtain ⟨i,_,q⟩:=List.mem_map.1 hb;have:=List.mem_range.1 ha;omega
  have s3:StZ C Γ ((yo::Lx)++Lr) z fr (h.push (.loop B)):=s3;have hL:=s3.lent (ks:=List.range (yo::Lx).length) List.nodup_range;rw [hks] at hL;have hcall:=hit _ _ cb γ0 z (h.push (.loop B)) (us0++[.func (.yield h.next) [] []]++vs0) s3.sub s3.chg.ok (zbF (zbF hps (by simp [zz,TE.ok])) hcs) hL;have hcall:=zcw (a:=us0) (b:=vs0) hcst hcall;obtain ⟨n,r',h2,hrun,us,z',γ,e1,hl,q,hz,hs,hold,hok,hown⟩:=hcall;have hus:us=[]:=List.length_eq_zero_iff.1 hl;subst hus;have s4:=s3.afterM (ks:=List.range (yo::Lx).length) (js:=(List.range Lr.length).map (·+(yo::Lx).length)) hnd (by rw [hks]; exact q) hz hs (by rw [hks]; exact hold) (by rw [hks]; exact hown);rw [hjs] at s4;have s4:StZ C Γ ((.func (.yield h.next) [] [],zgo h.next B Γ I E r γ)::Lr) z' fr h2:=s4;obtain ⟨⟨o1,o2,_⟩,_⟩:=s4.own.ok _ (List.mem_cons_self ..);obtain ⟨w1,w2,w3⟩:=s4.own.out _ (List.mem_cons_self ..) h.next (List.mem_cons_self ..);have hnd4:(h.next::(blks (I r γ)++blks Lr)).Nodup:=by
    have:=s4.own.nodup;rw [z8] at this;exact this
  have hblk:blks (I r γ++Lr)=blks (I r γ)++blks Lr:=by simp [blks]
  have s5:StZ C Γ (I r γ++Lr) z' fr h2:=by
    refine { s4 with own:=⟨λp hp'=>?_,λp hp' b hb'=>?_,by rw [hblk]; exact (List.nodup_cons.1 hnd4).2⟩ }
    · rcases List.mem_append.1 hp' with hp' | hp'
      · exact o1 p hp'
      · exact s4.own.ok p (List.mem_cons_of_mem _ hp')
    · rcases List.mem_append.1 hp' with hp' | hp'
      · exact s4.own.out _ (List.mem_cons_self ..) b (List.mem_cons_of_mem _ (za1.2 ⟨p,hp',hb'⟩))
      · exact s4.own.out p (List.mem_cons_of_mem _ hp') b hb'
  have s6:∀ x,StZ C Γ (I r γ++Lr) z' fr (h2.set h.next x):=λx=>s5.wild w1 w2 w3 (by rw [hblk]; exact (List.nodup_cons.1 hnd4).1) x;have hrun':acall T (aexec T n) (fr.op f) [.func (.yield h.next) [] []] (h.push (.loop { state:=.ready,pending:=none,fr:=fr,params:=params.toList,assign:=assign,body:=body }))=some (r',h2):=by rw [ev]; exact hrun
  subst e1;refine ⟨n+1,znn E r,fr,h2.set h.next (.loop { ztr B E r with state:=.exhausted }), ?_,out γ fr _ ⟨z',s6 _⟩⟩;simp only [aexec,hrun',o2];cases r with
  | inl s'=>rfl
  | inr t'=>
    simp only [ztr,znn];cases hE:E t'<;>rfl
end
end Go.Ai.Sx
/- Arrays that are written once: read where they lie. -/
namespace Go.Ai.Sx
section
variable {C:Ctx} {T:Tab} {d:Option (List Nat)} {ops rest:List Oper} {Γ:Env} {L:Own} {Q:zf->za->Prop} {o:Oper} {t:Nat} {z:Store} {fr:zf} {h:za}
theorem zlo {A:Type} {R:Rep A} {xs:List A} {b n:Nat} (k:Nat) (ts:List Nat) (hp:0<R.sz) (hn:0<n) {L':Own} (hk:L[k]?=some (.slice b 0 n R.sz (some n),.row R xs)) (hL:zdM L k=some L') (hts:zhX Γ (.ptr b 0) ts):∀ z fr h,StZ C Γ L z fr h->∃ z',z.le z'/\StZ C (zfG ts (.val (z5 (zjT n R)) xs) Γ) L' z' fr h:=by
 intro z fr h s;obtain ⟨z',hz,s',hr⟩:=s.freeze hk hL;refine ⟨z',hz,{ s' with fr:=zel ?_ hts s'.fr }⟩;rcases hr.2 with ⟨q,_⟩ | ⟨b',off,cap,q,_⟩ | ⟨b',off,cap,cells,ro,q,h2,h3,h4,h5⟩
 . cases q
 . cases q; omega
 . cases q;simp only [TE.ok];refine ⟨⟨_,rfl,b,0,cells,ro,rfl,h2,h3, ?_⟩,rfl⟩;have hl:((cells.drop 0).take (zjT xs.length R).sz).length=xs.length*R.sz:=by
    show ((cells.drop 0).take (xs.length*R.sz)).length=_;simp; omega
   have hpp:∀ i x,xs[i]?=some x->R.rel z' ((((cells.drop 0).take (xs.length*R.sz)).drop (i*R.sz)).take R.sz) x:=λi x hi=>by
    have h6:=h5 i x hi;have hlt:=(List.getElem?_eq_some_iff.1 hi).1;rw [List.drop_zero,List.drop_take,List.take_take,Nat.min_eq_left]
    . rwa [Nat.zero_add] at h6
    . have:=Nat.mul_le_mul_right R.sz (show i+1<=xs.length by omega);rw [Nat.add_mul,Nat.one_mul] at this;omega
   exact ⟨rfl,hl,zix hp hl hpp,hpp⟩
theorem zbT {A:Type} {R:Rep A} {x y:Operand} {xs:List A} {at_ et:TypeId} {n:Nat} {kk:IntKind} {i:Int} {a:A} (har:Ar1 T at_ et n R) (hi:idx xs i=some a) (hw:Want ops Γ true o.guard) (ho:o.op=.indexAddr at_ x y) (hd:o.dst=some t)
 (hx:Opd Γ x (.val (z5 (zjT n R)) xs)) (hy:Opd Γ y (.val (zj kk) i)) (r:zr C T d ops rest ((t,.val (z5 R) a)::Γ) L Q):zr C T d ops (o::rest) Γ L Q:=by
 refine zaj (by rw [ho]; rfl) hw hd (λz fr h s=>?_) r;obtain ⟨h0,h1,h2,h3⟩:=zfm hi;obtain ⟨b,off,cells,ro,e1,e2,e3,e4⟩:=zhS (hx.val s.fr);obtain ⟨q1,q2,q3,q4⟩:=e4;have hlt:i.toNat<n:=by omega
 have hle:i.toNat*R.sz+R.sz<=n*R.sz:=by
  have:=Nat.mul_le_mul_right R.sz (show i.toNat+1<=n by omega);rwa [Nat.add_mul,Nat.one_mul] at this
 have e3:off+n*R.sz<=cells.length:=e3;refine ⟨.ptr b (off+i.toNat*R.sz), ?_, ?_⟩
 . rw [ho];simp only [aop,hy.int s.fr,e1,zde,har.und,har.sz];rw [if_pos (by exact ⟨h0,by omega⟩)];rfl
 . simp only [TE.ok];refine ⟨⟨_,rfl,b,_,cells,ro,rfl,e2,by omega, ?_⟩,rfl⟩;have:=q4 _ a h3;have hq:(((cells.drop off).take (n*R.sz)).drop (i.toNat*R.sz)).take R.sz=(cells.drop (off+i.toNat*R.sz)).take R.sz:=by
    rw [List.drop_take,List.take_take,List.drop_drop,Nat.min_eq_left (by omega)]
   exact hq▸this
end
end Go.Ai.Sx
/- Arrays of two in a box: a box's cells at a place told by a number. -/
namespace Go.Ai.Sx
theorem zy1 {A:Type} {R:Rep A} {z:Store} {c:ze} {x:A} (h:R.rel z [c] x) (h1:R.sz=1) (ho:c.one=true):(zjT 2 R).rel z [c,c] [x,x]:=by
 refine ⟨rfl,by rw [h1]; rfl,by simp [ho],λi y hi=>?_⟩;rw [h1,Nat.mul_one]
 match i,hi with
 | 0,hi=>cases hi; exact h
 | 1,hi=>cases hi; exact h
theorem ziF {A:Type} {R:Rep A} {a b:A} (h:R.agg=false):Cells (zjT 2 R) [a,b] [.val R a,.val R b]:=by
 have hs:=R.one h;intro z cs;have c1:=zt (R:=R) (a:=a) h z;have c2:=zt (R:=R) (a:=b) h z;constructor
 . rintro ⟨_,h2,_,h4⟩
   rw [hs] at h2
   match cs,h2 with
   | [u,v],_=>
    have e1:=h4 0 a rfl;have e2:=h4 1 b rfl;rw [hs] at e1 e2;have k1:=(c1 [u]).1 e1;have k2:=(c2 [v]).1 e2;exact zdv.2 ⟨[u],[v],rfl,k1,k2⟩
 . intro hk;obtain ⟨x1,x2,rfl,k1,k2⟩:=zdv.1 (show zz z ([.val R a]++[.val R b]) cs from hk);have r1:=(c1 _).2 k1;have r2:=(c2 _).2 k2;have l1:=R.len _ _ _ r1;have l2:=R.len _ _ _ r2;rw [hs] at l1 l2
   match x1,l1,x2,l2 with
   | [u],_,[v],_=>
    refine ⟨rfl,by rw [hs]; rfl, ?_,λi y hi=>?_⟩
    . have o1:=R.ones _ _ _ r1;have o2:=R.ones _ _ _ r2;simp only [List.all_cons,List.all_nil,Bool.and_true] at o1 o2;simp [o1,o2]
    . rw [hs,Nat.mul_one]
      match i,hi with
      | 0,hi=>cases hi; exact r1
      | 1,hi=>cases hi; exact r2
theorem ix2 {i:Int} {u:Unit} (h:idx [(),()] i=some u):i=0\/i=1:=by
 have:=zfm h;simp only [List.length_cons,List.length_nil] at this;omega
theorem zvI {i:Int} {u:Unit} (h:idx [(),()] i=some u) {q n:Nat} (hq:q+1<n):q+i.toNat<n:=by
 have:=ix2 h;omega
section
variable {C:Ctx} {T:Tab} {d:Option (List Nat)} {ops rest:List Oper} {Γ:Env} {L:Own} {Q:zf->za->Prop} {o:Oper} {t:Nat} {z:Store} {fr:zf} {h:za}
theorem zr2 {A:Type} {R:Rep A} {x y:Operand} {at_ et:TypeId} {kk:IntKind} {i:Int} {u:Unit} {b off:Nat} (har:Ar1 T at_ et 2 R) (hs:R.sz=1) (hi:idx [(),()] i=some u) (hw:Want ops Γ true o.guard) (ho:o.op=.indexAddr at_ x y) (hd:o.dst=some t)
 (hx:Opd Γ x (.raw (.ptr b off))) (hy:Opd Γ y (.val (zj kk) i)) (r:zr C T d ops rest ((t,.raw (.ptr b (off+i.toNat)))::Γ) L Q):zr C T d ops (o::rest) Γ L Q:=by
 refine zaj (by rw [ho]; rfl) hw hd (λz fr h s=>?_) r;have h0:=ix2 hi;refine ⟨.ptr b (off+i.toNat), ?_,rfl⟩;rw [ho];simp only [aop,hy.int s.fr,hx.raw s.fr,zde,har.und,har.sz];rw [if_pos (by exact ⟨by omega,by omega⟩),hs,Nat.mul_one];rfl
theorem znw {A:Type} {R:Rep A} {a:A} {et:TypeId} {x y:Operand} {b q:Nat} {es es':List TE} (k:Nat) (hsz:szT T et=some 1) (hk:L[k]?=some (.ptr b 0,.box es)) (hq:q<es.length) (he:es.set q (.val R a)=es') (hw:Want ops Γ true o.guard) (ho:o.op=.store et x y) (hd:o.dst=none) (hx:Opd Γ x (.raw (.ptr b q))) (hy:Opd Γ y (.val R a)) (hR:R.agg=false)
 {L':Own} (hL:zfn L k (.ptr b 0,.box es')=some L') (r:zr C T d ops rest Γ L' Q):zr C T d ops (o::rest) Γ L Q:=
 zgd k hsz hk hq hw ho hd hx hy hR (by rw [he]; exact hL) r
end
end Go.Ai.Sx
/- Maps whose values are rows that are owned too. -/
namespace Go.Ai.Sx
section
variable {K:Type} [DecidableEq K]
variable {C:Ctx} {T:Tab} {d:Option (List Nat)} {ops rest:List Oper} {Γ:Env} {L:Own} {Q:zf->za->Prop} {P:zab->zf->za->Prop} {o:Oper} {t:Nat} {z:Store} {fr:zf} {h:za}
end
end Go.Ai.Sx
/- Walks of code that panics,and of functions that recover. -/
namespace Go.Ai.Sx
def zr3 (T:Tab) (g:FuncId) (as:List TE) (L0:Own) (v:ze):Prop:=
 ∀ z h vs,z.Sub h->h.wm<=h.next->zz z as vs->zfk ⟨z,h,blks L0⟩ z h L0->ziq T g vs h λr h'=>∃ z',r=.pan v/\Chg ⟨z,h,blks L0⟩ h'/\z.le z'/\z'.Sub h'/\∀ b,b<h.next->b∉blks L0->z' b=z b
def zAe (C:Ctx) (v:ze) (e:zab) (_:zf) (h:za):Prop:=
 e=.pan v/\∃ z,C.z0.le z/\z.Sub h/\(∀ b,b<C.h0.next->b∉C.B0->z b=C.z0 b)/\Chg C h
section
variable {C:Ctx} {T:Tab} {d:Option (List Nat)} {ops rest:List Oper} {Γ:Env} {L:Own} {Q:zf->za->Prop} {P:zab->zf->za->Prop} {o:Oper} {t:Nat} {z:Store} {fr:zf} {h:za}
theorem zwO {v:ze}:∀ fr h,St C Γ L fr h->zAe C v (.pan v) fr h:=λ_ _ ⟨z,s⟩=>⟨rfl,z,s.zle,s.sub,s.old,s.chg⟩
theorem zr4 {g:FuncId} {F:Func} {c:Code} {as:List TE} {L0:Own} {v:ze} (hF:T.funcs.get g=some F) (hb:F.body=some c) (hn:Nat.blt F.ntmps as.length=false) (run:∀ C,zdX C T c (entry 0 as) L0 (zAe C v)):zr3 T g as L0 v:=by
 intro z h vs hsub hwm hok hL;have s0:StZ ⟨z,h,blks L0⟩ (entry 0 as) L0 z (zaz 0 vs .leaf) h:=
  { zle:=.refl _,sub:=hsub,old:=λ_ _ _=>rfl,fr:=zge hok,own:=hL,chg:=⟨Nat.le_refl _,λ_ _ _=>rfl,λ_ m1 _ _=>m1,hwm⟩ }
 obtain ⟨n,e,fr',h',h1,rfl,z',h2,h3,h4,h5⟩:=run ⟨z,h,blks L0⟩ _ _ ⟨z,s0⟩;refine ⟨n,.pan v,h', ?_,z',rfl,h5,h2,h3,h4⟩;unfold zdH;simp only [hF,zaW hok,hn,cond_false,hb,h1]
theorem zmb {ops:List Oper}:∀ (l r:List Oper) (fr:zf) (h:za),wX T ops l fr h (λfr h=>Ops T ops r fr h P)->Ops T ops (l++r) fr h P
 | [],r,fr,h,w=>w
 | o::l,r,fr,h,w=>by
  simp only [wX] at w;split at w
  . rename_i hw;split at w
    . rename_i ha; exact zlR hw ha (zmb l r _ _ w)
    . rename_i f vs ha;obtain ⟨n,rr,h1,h2,v,rfl,h3⟩:=w;obtain ⟨m,e,fr',h',h4,h5⟩:=zmb l r _ _ h3;refine ⟨max n m,e,fr',h', ?_,h5⟩;simp only [List.cons_append,aops,hw,astep,ha];rw [zeY (zbx (Nat.le_max_left n m)) _ _ _ _ h2];exact zjN (zeY (zbx (Nat.le_max_right n m))) _ _ _ _ h4
    . exact w.elim
  . rename_i hw;obtain ⟨m,e,fr',h',h4,h5⟩:=zmb l r _ _ w;refine ⟨m,e,fr',h', ?_,h5⟩;simp only [List.cons_append,aops,hw];exact h4
  . exact w.elim
theorem znx {id:Nat} {ops:Array Oper} (n:Nat) (r:zr C T none ops.toList (ops.toList.take n) Γ L (λfr h=>Ops T ops.toList (ops.toList.drop n) fr h P)):zdX C T (.region id ops false) Γ L P:=λfr h s=>by
 have:=zmb (T:=T) (P:=P) (ops.toList.take n) (ops.toList.drop n) fr h (r fr h s);rw [List.take_append_drop] at this;exact zir this
theorem zr5 {c:Call} {x:Operand} {g:FuncId} {ps cs es:List TE} {L0 Lr:Own} {v:ze} {m:Nat} (ks js:List Nat) (hf:zr3 T g (ps++es++cs) L0 v) (h0:picks L ks=L0) (hr:picks L js=Lr) (hn:(ks++js).Nodup) (hcst:T.consts.get g=none) (hw:Want ops Γ true o.guard) (ho:o.op=.call c) (hc:c.callee=.value x) (hx:Opd Γ x (.val (zoz g ps cs) ())) (hvs:Opds Γ c.args.toList es)
 (hd:ops.drop m=o::rest) (hp:∀ fr h,St C Γ Lr fr h->P (.pan v) fr h):zr C T none ops [] Γ L (λfr h=>Ops T ops (ops.drop m) fr h P):=by
 subst h0 hr;intro fr h ⟨z,s⟩;simp only [wX];rw [hd];obtain ⟨us,vs,e,h1,h2⟩:=zj5 (hx.val s.fr);have ha:aop T fr.op h o.op=some (.call (.func (.func g) us vs) (c.args.toList.map fr.op)):=by rw [ho]; simp only [aop,zcu,hc,e]
 obtain ⟨n,r,h',q1,z',rfl,q,hz,hs,hold⟩:=zcw (a:=us) (b:=vs) hcst (hf z h (us++c.args.toList.map fr.op++vs) s.sub s.chg.ok (zbF (zbF h1 (hvs.ok s.fr)) h2) (s.lent (List.nodup_append.1 hn).1));have s':=s.afterM (js:=js) hn q hz hs hold (O:=[]) ⟨by simp,by simp,by simp [blks]⟩;refine ⟨n,.pan v,fr,h', ?_,hp fr h' ⟨z',s'⟩⟩;simp only [aops,hw.ok s.fr,astep,ha,q1]
def zzE (T:Tab) (D:zbO) (cs:List TE) (v:ze) (L0 L1:Own):Prop:=∀ z h vs,z.Sub h->h.wm<=h.next->zz z cs vs->zfk ⟨z,h,blks L0⟩ z h L0 ->
 Run T D.rest (Tr.set (Tr.set (zaz 0 vs .leaf) D.p1 v) D.p2 v) h λe _ h'=>e=.normal/\∃ z',Chg ⟨z,h,blks L0⟩ h'/\z.le z'/\z'.Sub h'/\(∀ b,b<h.next->b∉blks L0->z' b=z b)/\zfk ⟨z,h,blks L0⟩ z' h' L1
def zA6 (C:Ctx) (L1:Own) (e:zab) (_:zf) (h:za):Prop:=e=.normal/\∃ z,C.z0.le z/\z.Sub h/\(∀ b,b<C.h0.next->b∉C.B0->z b=C.z0 b)/\zfk C z h L1/\Chg C h
theorem zwP:∀ fr h,St C Γ L fr h->zA6 C L .normal fr h:=λ_ _ ⟨z,s⟩=>⟨rfl,z,s.zle,s.sub,s.old,s.own,s.chg⟩
theorem zjp {e:TE} {n:Nat} {v:ze} (hf:zhz z Γ fr) (h:e.ok z v):zhz z ((n,e)::Γ) (Tr.set fr n v):=by
 intro t e' q;simp only [look] at q;rw [zf.ev_set];cases hb:Nat.beq n t with
 | true=>
  rw [hb] at q;cases q;rw [if_pos (Nat.eq_of_beq_eq_true hb).symm];exact h
 | false=>
  rw [hb] at q;rw [if_neg (λe=>by subst e; simp at hb)];exact hf t e' q
theorem zwQ {D:zbO} {cs:List TE} {v:ze} {L0 L1:Own} (run:∀ C,zdX C T D.rest ((D.p2,.raw v)::(D.p1,.raw v)::entry 0 cs) L0 (zA6 C L1)):zzE T D cs v L0 L1:=by
 intro z h vs hsub hwm hok hL;have hv:(TE.raw v).ok z v:=by simp only [TE.ok]
 have s0:StZ ⟨z,h,blks L0⟩ ((D.p2,.raw v)::(D.p1,.raw v)::entry 0 cs) L0 z (Tr.set (Tr.set (zaz 0 vs .leaf) D.p1 v) D.p2 v) h:=
  { zle:=.refl _,sub:=hsub,old:=λ_ _ _=>rfl,fr:=zjp (zjp (zge hok) hv) hv,own:=hL,chg:=⟨Nat.le_refl _,λ_ _ _=>rfl,λ_ m1 _ _=>m1,hwm⟩ }
 exact (run ⟨z,h,blks L0⟩ _ _ ⟨z,s0⟩).mono λe fr h' ⟨he,z',h1,h2,h3,h4,h5⟩=>⟨he,z',h5,h1,h2,h3,h4⟩
theorem zup {D:zbO} {cs:List TE} {v:ze} {ks js:List Nat} {L1 Lr:Own} (hc:zzE T D cs v (picks L ks) L1) (hr:picks L js=Lr) (hn:(ks++js).Nodup) (hx:look Γ D.tmp=some (.val (zoz D.fn [] cs) ())) (hlen:cs.length<=D.cn) (s:StZ C Γ L z fr h) :
 ∃ m h4,aclose (aexec T m) D (fr.ev D.tmp) v h=some h4/\St C Γ (L1++Lr) fr h4:=by
 subst hr;have hv:=s.fr _ _ hx;simp only [TE.ok] at hv;obtain ⟨us,vs,e,h1,h2⟩:=zj5 hv;have hus:us=[]:=by
  cases us with
  | nil=>rfl
  | cons u us=>simp [zz] at h1
 subst hus;obtain ⟨m,e2,fr',h',r1,rfl,z',q,hz,hs,hold,hown⟩:=hc z h vs s.sub s.chg.ok h2 (s.lent (List.nodup_append.1 hn).1);refine ⟨m,h', ?_,z',s.afterM (js:=js) hn q hz hs hold hown⟩;have hl:Nat.ble vs.length D.cn=true:=Nat.ble_eq_true_of_le (by rw [zaW h2]; exact hlen);rw [e];unfold aclose;simp only [List.nil_append,Nat.beq_refl,hl,Bool.and_self,cond_true,r1]
def zAf (C:Ctx) (T:Tab) (D:zbO) (rs:List RE) (e:zab) (fr:zf) (h:za):Prop:=
 (e=.ret/\zt4 C T D.results rs e fr h)\/∃ v,e=.pan v/\∃ m h4,aclose (aexec T m) D (fr.ev D.tmp) v h=some h4/\zt4 C T D.results rs .ret fr h4
theorem zmc {D:zbO} {rs:List RE} (q:∀ fr h,St C Γ L fr h->zt4 C T D.results rs .ret fr h):∀ fr h,St C Γ L fr h->zAf C T D rs .ret fr h:=λfr h s=>.inl ⟨rfl,q fr h s⟩
theorem zuq {D:zbO} {rs:List RE} {cs:List TE} {v:ze} {ks js:List Nat} {L0 L1 Lr:Own} (h0:picks L ks=L0) (hc:zzE T D cs v L0 L1) (hr:picks L js=Lr) (hn:(ks++js).Nodup) (hx:look Γ D.tmp=some (.val (zoz D.fn [] cs) ())) (hlen:cs.length<=D.cn)
 (q:∀ fr h,St C Γ (L1++Lr) fr h->zt4 C T D.results rs .ret fr h):∀ fr h,St C Γ L fr h->zAf C T D rs (.pan v) fr h:=λfr h ⟨z,s⟩=>by
 subst h0;obtain ⟨m,h4,h5,h6⟩:=zup hc hr hn hx hlen s;exact .inr ⟨v,rfl,m,h4,h5,q fr h4 h6⟩
theorem zwR {g:FuncId} {D:zbO} {as:List TE} {rs:List RE} (hF:T.funcs.get g=none) (hD:T.defs.get g=some D) (hn:Nat.blt D.ntmps as.length=false) (hv:as.length<=D.tmp)
 (hm:∃ fn a b,D.mko.op=.makeFunc fn a b) (hd:D.mko.dst=some D.tmp) (hg:D.mko.guard=none) (hs0:D.pre.all (zhq D.tmp)=true) (hs:zhq D.tmp D.post=true)
 (hnil:∀ fr h x h2,aop T fr h D.mko.op=some (.val x h2)->∀ h3,∃ m,aclose (aexec T m) D x .niliface h3=some h3)
 (run:∀ C,C.B0=[]->zdX C T (D.pre.foldr Code.seq (.seq (.region D.id #[D.mko] false) D.post)) (entry 0 as) [] (zAf C T D rs)):Fun T g as rs:=by
 intro z h vs hsub hwm hok;have s0:StZ ⟨z,h,[]⟩ (entry 0 as) [] z (zaz 0 vs .leaf) h:=
  { zle:=.refl _,sub:=hsub,old:=λ_ _ _=>rfl,fr:=zge hok,own:=⟨λp hp=>(nomatch hp),λp hp=>(nomatch hp),List.nodup_nil⟩,chg:=⟨Nat.le_refl _,λ_ _ _=>rfl,λ_ m1 _ _=>m1,hwm⟩ }
 refine zun hF hD (by rw [zaW hok]; exact hn) (by rw [zaW hok]; exact hv) hm hd hg hs0 hs hnil ((run ⟨z,h,[]⟩ rfl _ _ ⟨z,s0⟩).mono λe fr h' q=>?_);have fin:∀ h',zt4 ⟨z,h,[]⟩ T D.results rs .ret fr h'->∃ us,aresults T D.results fr h'=some us/\∃ us_1 z',zg3.ret (packed us)=.ret (packed us_1)/\us_1.length=rs.length/\Quiet h h'/\z.le z'/\z'.Sub h'/\(∀ b,b<h.next->z' b=z b)/\zz z' (tes rs us_1) us_1/\zfk ⟨z,h,[]⟩ z' h' (owns rs us_1):=by
  rintro h' ⟨_,us,z',h1,h2,h3,h4,h5,h6,h7,h8⟩
  exact ⟨us,h1,us,z',rfl,h2,⟨h8.next,λb hb=>h8.same b hb (λq=>nomatch q),h8.wm _ (Nat.min_le_left _ _) (Nat.min_le_right _ _) (λ_ q=>nomatch q),λ_=>h8.ok⟩,h3,h4,λb hb=>h5 b hb (λq=>nomatch q),h6,h7⟩
 rcases q with ⟨rfl,q⟩ | ⟨v,rfl,m,h4,q1,q2⟩
 . obtain ⟨us,a1,a2⟩:=fin h' q;exact .inl ⟨rfl,us,a1,a2⟩
 . obtain ⟨us,a1,a2⟩:=fin h4 q2;exact .inr ⟨v,rfl,m,h4,q1,us,a1,a2⟩
def zzF {α β:Type} (T:Tab) (g:FuncId) (as:List TE) (L0:Own) (rs:α->List RE) (L1:α->List ze->Own) (v:ze):α⊕β->Prop
 | .inl x=>zjn T g as L0 (rs x) (L1 x)
 | .inr _=>zr3 T g as L0 v
def zBk {α β:Type} (C:Ctx) (T:Tab) (res:List ResultVar) (rs:α->List RE) (L1:α->List ze->Own) (v:ze):α⊕β->zab->zf->za->Prop
 | .inl x=>zz3 C T res (rs x) (L1 x)
 | .inr _=>zAe C v
theorem zwS {α β:Type} {g:FuncId} {F:Func} {c:Code} {as:List TE} {L0:Own} {rs:α->List RE} {L1:α->List ze->Own} {v:ze} {out:α⊕β} (hF:T.funcs.get g=some F) (hb:F.body=some c) (hn:Nat.blt F.ntmps as.length=false) (run:∀ C,zdX C T c (entry 0 as) L0 (zBk C T F.results.toList rs L1 v out)):zzF T g as L0 rs L1 v out:=by
 cases out with
 | inl x=>exact zho hF hb hn run
 | inr y=>exact zr4 hF hb hn run
theorem zA7 {m:Nat} (r:zr C T none ops (ops.drop m) Γ L (P .normal)):zr C T none ops [] Γ L (λfr h=>Ops T ops (ops.drop m) fr h P):=ziw λfr h s=>zhQ (r fr h s)
def zA8 (T:Tab) (t:TypeId):Bool:=match T.und t with
 | some (.struct _)=>true
 | _=>false
theorem zur {id a b ty:Nat} {t1 t2 t3:TypeId} {p1 p2 p3:String} {f1 f2 f3:Array Edge} (hb:abuild T ty []=some (.agg [])) (hu:zA8 T ty=true) (hp:∀ fr h,St C ((b,.raw (.iface ty (.agg [])))::(a,.raw (.agg []))::Γ) L fr h->P (.pan (.iface ty (.agg []))) fr h) :
 zdX C T (.region id #[⟨some a,.build ty #[],t1,p1,f1,none⟩,⟨some b,.makeInterface ty (.tmp a),t2,p2,f2,none⟩,⟨none,.panic (.tmp b),t3,p3,f3,none⟩] false) Γ L P:=λfr h s=>by
 refine zir ?_;have h1:aop T fr.op h (.build ty #[])=some (.val (.agg []) h):=by simp only [aop,zcY,List.map_nil,hb]; rfl
 have h2:∀ fr2:zf,fr2.ev a=.agg []->aop T fr2.op h (.makeInterface ty (.tmp a))=some (.val (.iface ty (.agg [])) h):=λfr2 e=>by
  unfold zA8 at hu;simp only [aop,zb3,zpo,e];split at hu
  . rename_i q; rw [q]
  . cases hu
 refine zlR rfl h1 (zlR rfl (h2 _ ?_) ?_)
 . rw [zaI,zf.ev_set,if_pos rfl]
 . obtain ⟨z,s⟩:=s;refine ⟨0,.pan (.iface ty (.agg [])),putDst (putDst fr (some a) (.agg [])) (some b) (.iface ty (.agg [])),h, ?_,hp _ _ ⟨z,{ s with fr:=zjp (zjp s.fr (by simp only [TE.ok])) (by simp only [TE.ok]) }⟩⟩;simp only [aops,awanted,astep,aop,apanic,zpo,zaI,zf.ev_set,if_pos]
end
end Go.Ai.Sx