/- Fields that are known to be nil: rows that grow from nothing,in boxes. -/
import Derived.Test.YtghlaibcihhbcaaGreatK5
set_option linter.unusedSimpArgs false
set_option linter.unusedVariables false
set_option linter.unusedSectionVars false
namespace Go.Ai.Sx
def zs5:Rep Unit:=⟨1,false,λ_ cs _=>cs=[.nilslice],λ_ _ _ h=>by rw [h]; rfl,λ_ _ _ _ _ h=>h,λ_=>rfl,λ_ _ _ h=>by rw [h]; rfl⟩
theorem zrc {z:Store}:zs5.rel z [.nilslice] ():=rfl
section
variable {C:Ctx} {Γ:Env} {L:Own}
theorem zs6 {b:Nat} {es es':List TE}:∀ (L:Own) (m:Nat),L[m]?=some (.ptr b 0,.box es)->blks (L.set m (.ptr b 0,.box es'))=blks L:=by
 intro L;induction L with
 | nil=>intro m h; simp at h
 | cons p L ih=>
  intro m h;cases m with
  | zero=>simp at h; subst h; rw [List.set_cons_zero,zaa,zaa]; rfl
  | succ m=>rw [List.set_cons_succ,zaa,zaa,ih m (by simpa using h)]
theorem StZ.cell {z:Store} {fr:zi} {h:za} {b q:Nat} {es:List TE} {e e':TE} (s:StZ C Γ L z fr h) (m:Nat) {L':Own} (hm:L[m]?=some (.ptr b 0,.box es)) (hq:es[q]?=some e) (hi:∀ v,e.ok z v->e'.ok z v) (hL:zfw L m (.ptr b 0,.box (es.set q e'))=some L'):StZ C Γ L' z fr h:=by
 have hob:=s.own.ok _ (List.mem_of_getElem? hm);simp only [Obj.ok] at hob;obtain ⟨b',cells,q',g1,g2,g3⟩:=hob;cases q';obtain ⟨c,hc1,hc2⟩:=zjo g2 hq;have hset:cells.set q c=cells:=by
  apply List.ext_getElem?;intro i;rw [List.getElem?_set];split
  . rename_i e; subst e;rw [if_pos (List.getElem?_eq_some_iff.1 hc1).1,hc1]
  . rfl
 have hobj:(Obj.box (es.set q e')).ok z h (.ptr b 0):=by
  refine ⟨b,cells,rfl,g1, ?_,g3⟩;rw [← hset]; exact zgX g2 (hi _ hc2)
 obtain ⟨rfl,hlt⟩:=zh9 hL;have hmem:∀ p∈L.set m (.ptr b 0,.box (es.set q e')),p=(.ptr b 0,.box (es.set q e'))\/p∈L:=by
  intro p hp;rcases List.mem_or_eq_of_mem_set hp with e | e
  . exact .inr e
  . exact .inl e
 refine { s with own:=⟨λp hp=>?_,λp hp=>?_,by rw [zs6 L m hm]; exact s.own.nodup⟩ }
 . rcases hmem p hp with rfl | hp
   . exact hobj
   . exact s.own.ok p hp
 . rcases hmem p hp with rfl | hp
   . intro c' hc';exact s.own.out _ (List.mem_of_getElem? hm) c' (by simpa [zeK,zh4] using hc')
   . exact s.own.out p hp
theorem zrd {b q:Nat} {es:List TE} {e e':TE} (m:Nat) {L':Own} (hm:L[m]?=some (.ptr b 0,.box es)) (hq:es[q]?=some e) (hi:∀ z v,e.ok z v->e'.ok z v) (hL:zfw L m (.ptr b 0,.box (es.set q e'))=some L') :
 ∀ z fr h,StZ C Γ L z fr h->∃ z',z.le z'/\StZ C Γ L' z' fr h:=λz _ _ s=>⟨z,.refl _,s.cell m hm hq (hi z) hL⟩
theorem zpN {b q:Nat} {es:List TE} {v:ze} (m:Nat) {L':Own} (hm:L[m]?=some (.ptr b 0,.box es)) (hq:es[q]?=some (.val zpI v)) (hL:zfw L m (.ptr b 0,.box (es.set q (.raw v)))=some L') :
 ∀ z fr h,StZ C Γ L z fr h->∃ z',z.le z'/\StZ C Γ L' z' fr h:=zrd m hm hq zs2 hL
theorem zn8 {A B:Type} {K:Rep A} {R:Rep B} {xs:List (A×B)} {b c q:Nat} {es:List TE} (k m:Nat) (ts:List Nat) {L' L'':Own} (hk:L[k]?=some (.map c,.mp K R xs)) (hL:zdU L k=some L') (hm:L'[m]?=some (.ptr b 0,.box es)) (hq:es[q]?=some (.raw (.map c))) (hL':zfw L' m (.ptr b 0,.box (es.set q (.val (zp8 K R) xs)))=some L'') (hts:zic Γ (.map c) ts) :
 ∀ z fr h,StZ C Γ L z fr h->∃ z',z.le z'/\StZ C (zfX ts (.val (zp8 K R) xs) Γ) L'' z' fr h:=by
 intro z fr h s;obtain ⟨z',hz,s',hr⟩:=s.freezem hk hL;have s2:=s'.cell m hm hq (e':=.val (zp8 K R) xs) (λv hv=>by simp only [TE.ok] at hv ⊢; rw [hv]; exact hr) hL';exact ⟨z',hz,{ s2 with fr:=zev (by simp only [TE.ok]; exact hr) hts s2.fr }⟩
theorem zva {z:Store} {v:ze} {x:Unit} (h:TV zs5 z v x):v=.nilslice:=by
 have h1:=h.rel;have h2:=h.agg;cases v<;>simp_all [zs5,ze.cells,ze.isAgg]
theorem zs7:∀ z v,(TE.val zs5 ()).ok z v->(TE.raw .nilslice).ok z v:=λz v h=>by
 simp only [TE.ok] at h ⊢;exact zva h
theorem zhl {b q:Nat} {es:List TE} (m:Nat) {L':Own} (hm:L[m]?=some (.ptr b 0,.box es)) (hq:es[q]?=some (.val zs5 ())) (hL:zfw L m (.ptr b 0,.box (es.set q (.raw .nilslice)))=some L') :
 ∀ z fr h,StZ C Γ L z fr h->∃ z',z.le z'/\StZ C Γ L' z' fr h:=zrd m hm hq zs7 hL
end
end Go.Ai.Sx
/- Floats,tables in strings,arrays whose first elements are left out,slices that are made greater. -/
namespace Go.Ai.Sx
def zpO:List ze->Option ze
 | [.float .f64 b]=>(FloatKind.f64.format.sqrt b).map (ze.float .f64)
 | _=>none
theorem zs8 {b r:Nat} (h:FloatKind.f64.format.sqrt b=some r):zpO [.float .f64 b]=some (.float .f64 r):=by
 simp only [zpO,h,Option.map]
def f2i (b:Nat):Option Int:=match (FloatKind.f64.decode b).toInt .zero with
 | some n=>if IntKind.i64.min<=n/\n<=IntKind.i64.max then some n else none
 | none=>none
def zre {A:Type} (bytes:Nat) (n:Int) (x:A):Option (List A):=if 0<n/\n.toNat*bytes<=2 ^ 46/\n<=2 ^ 62 then some (List.replicate n.toNat x) else none
theorem zrf {A:Type} {bytes:Nat} {n:Int} {x:A} {xs:List A} (h:zre bytes n x=some xs):(0<n/\n.toNat*bytes<=2 ^ 46/\n<=2 ^ 62)/\xs=List.replicate n.toNat x:=by
 unfold zre at h;split at h
 . rename_i q; cases h; exact ⟨q,rfl⟩
 . cases h
def zs9 {A B:Type} (es:List (A×B)):Option Int:=if es.length<=4611686018427387904 then some (es.length:Int) else none
def slz {A:Type} (xs:List A):Option Unit:=if xs.isEmpty then none else some ()
theorem zvb {A:Type} {xs:List A} {u:Unit} (h:slz xs=some u):xs≠[]:=λe=>by subst e; cases h
section
variable {C:Ctx} {T:Tab} {d:Option (List Nat)} {ops rest:List Oper} {Γ:Env} {L:Own} {Q:zi->za->Prop} {P:zaH->zi->za->Prop} {o:Oper} {t:Nat} {z:Store} {fr:zi} {h:za}
theorem zoU {v:ze} {z:Store}:TE.ok z (.raw v) v:=by simp only [TE.ok]
theorem zyB {x:Operand} {v:ze} (hx:Opd Γ x (.raw v)):∀ z fr,zin z Γ fr->[x].map fr.op=[v]:=λz fr hf=>by
 simp only [List.map,hx.raw hf]
theorem zyC {u u':TypeId} {k:IntKind} {x:Operand} {a:Int} (h1:(T.und u).isSome=true) (h2:T.und u'=some (.float .f64)) (hw:Want ops Γ true o.guard) (ho:o.op=.convert u u' x) (hd:o.dst=some t) (hx:Opd Γ x (.val (zh k) a))
 (r:zm C T d ops rest ((t,.raw (.float .f64 (FloatKind.f64.nearest a)))::Γ) L Q):zm C T d ops (o::rest) Γ L Q:=by
 refine zam (by rw [ho]; rfl) hw hd (λz fr h s=>⟨.float .f64 (FloatKind.f64.nearest a), ?_,zoU⟩) r;rw [ho];cases e:T.und u with
 | none=>rw [e] at h1; cases h1
 | some q=>simp [aop,aconvert,hx.int s.fr,h2,e,zW]
theorem zyD {u u':TypeId} {x:Operand} {b:Nat} {a:Int} (h1:(T.und u).isSome=true) (h2:T.und u'=some (.int .i64)) (hf:f2i b=some a) (hw:Want ops Γ true o.guard) (ho:o.op=.convert u u' x) (hd:o.dst=some t) (hx:Opd Γ x (.raw (.float .f64 b)))
    (r:zm C T d ops rest ((t,.val (zh .i64) a)::Γ) L Q):zm C T d ops (o::rest) Γ L Q:=by
  unfold f2i at hf;cases e1:(FloatKind.f64.decode b).toInt .zero with
  | none=>rw [e1] at hf; cases hf
  | some n=>
    rw [e1] at hf;simp only at hf;split at hf
    case isFalse=>cases hf
    rename_i hr;cases hf;refine zam (by rw [ho]; rfl) hw hd (λz fr h s=>⟨.int .i64 a, ?_,by simp only [TE.ok]; exact zbD hr.1 hr.2⟩) r;rw [ho];cases e:T.und u with
    | none=>rw [e] at h1; cases h1
    | some q=>simp only [aop,aconvert,hx.raw s.fr,h2,e,e1,if_pos hr,zW,Option.map]
theorem zg0 {s:ByteArray} {tbl:List Int} {st:TypeId} {y:Operand} {k:IntKind} {i a:Int} (hu:T.und st=some .string) (ht:s.data.toList.map (λb=>((b.toNat:Nat):Int))=tbl) (hi:idx tbl i=some a) (hw:Want ops Γ true o.guard) (ho:o.op=.index st (.const (.string s)) y) (hd:o.dst=some t) (hy:Opd Γ y (.val (zh k) i))
 (r:zm C T d ops rest ((t,.val (zh .u8) a)::Γ) L Q):zm C T d ops (o::rest) Γ L Q:=by
 obtain ⟨h0,h1,h2,h3⟩:=zfv hi;rw [← ht,List.getElem?_map,Option.map_eq_some_iff] at h3;obtain ⟨b,hb1,hb2⟩:=h3;have hb:s[i.toNat]?=some b:=by
  rw [← hb1];show s[i.toNat]?=s.data.toList[i.toNat]?;rw [Array.getElem?_toList];rfl
 refine zam (by rw [ho]; rfl) hw hd (λz fr h s'=>⟨.int .u8 a, ?_, ?_⟩) r
 . rw [ho];simp only [aop,hy.int s'.fr];show zW h (aindex T st (.str s) (.int k i))=_;simp only [aindex,hu,h0,if_true,hb,Option.map,zW,hb2]
 . simp only [TE.ok];have:=b.toNat_lt;rw [← hb2];exact zbD (by show (0:Int)<=_; omega) (by show _<=(255:Int); omega)
theorem zna {A:Type} {R:Rep A} {at_ et:TypeId} {n:Nat} {zc:List ze} {parts:Array (Nat×Operand)} {as:List A} (i0:Nat) (x0:A) (har:Ar1 T at_ et n R) (hz:ze0 T at_=some (.agg zc)) (hzl:zc.length=n*R.sz) (hx:∀ z j,j<i0->R.rel z ((zc.drop (j*R.sz)).take R.sz) x0) (hw:Want ops Γ true o.guard) (ho:o.op=.build at_ parts) (hd:o.dst=some t) (he:Elts Γ R i0 parts.toList as) (hn:i0+as.length=n)
 (r:zm C T d ops rest ((t,.val (zjn n R) (List.replicate i0 x0++as))::Γ) L Q):zm C T d ops (o::rest) Γ L Q:=by
 refine zam (by rw [ho]; rfl) hw hd (λz fr h s=>?_) r;obtain ⟨cells,h3,h4,h6,h5⟩:=zj0 he s.fr har.pos zc (by rw [hzl,← hn]);refine ⟨.agg cells, ?_, ?_⟩
 . rw [ho];simp only [aop,abuild,hz,har.und,har.sz,ze.cells,h3,zW,Option.map]
 . simp only [TE.ok];have hl:(List.replicate i0 x0++as).length=n:=by rw [List.length_append,List.length_replicate,hn]
   have hp:∀ i x,(List.replicate i0 x0++as)[i]?=some x->R.rel z ((cells.drop (i*R.sz)).take R.sz) x:=λi x hx'=>by
    rw [List.getElem?_append,List.length_replicate] at hx';split at hx'
    . rename_i hlt;rw [List.getElem?_replicate,if_pos hlt] at hx';cases hx';rw [h6 i hlt];exact hx z i hlt
    . have:=h5 _ x hx';rwa [show i0+(i-i0)=i by omega] at this
   exact ⟨⟨hl,by simp only [ze.cells]; rw [h4,hzl],ziE (l:=cells) har.pos (by rw [h4,hzl,hl]) hp,hp⟩,rfl⟩
theorem znb {A:Type} (R:Rep A) {n:Nat} (hl:look Γ n=some (.raw .nilslice)):∀ z fr h,StZ C Γ L z fr h->∃ z',z.le z'/\StZ C ((n,.val (zd R) [])::Γ) L z' fr h:=λz fr h s=>by
 have h1:=s.fr _ _ hl;simp only [TE.ok] at h1;exact ⟨z,.refl _,{ s with fr:=zlV s.fr (by simp only [TE.ok]; rw [h1]; exact zbR ziD) }⟩
theorem zoV {x:Operand} {st et:TypeId} {ats:Array TypeId} (hu:T.und st=some (.slice et)) (hats:ats=#[st]) (hw:Want ops Γ true o.guard) (ho:o.op=.call ⟨.builtin .cap,#[x],ats⟩) (hd:o.dst=some t) (hx:Opd Γ x (.raw .nilslice))
 (r:zm C T d ops rest ((t,.val (zh .i64) 0)::Γ) L Q):zm C T d ops (o::rest) Γ L Q:=by
 subst hats;refine zam (by rw [ho]; rfl) hw hd (λz fr h s=>⟨.int .i64 0, ?_,by simp only [TE.ok]; exact zbD (by decide) (by decide)⟩) r;rw [ho];show abuiltin T .cap #[st] [fr.op x] h=_;simp only [abuiltin,hx.raw s.fr];show zW h (acap T st .nilslice)=_;simp only [acap,hu,zW,Option.map]
theorem zvc {x hi:Operand} {st et:TypeId} {n:Nat} (hu:T.und st=some (.slice et)) (hz:szT T et=some n) (hw:Want ops Γ true o.guard) (ho:o.op=.slice st x none (some hi) none) (hd:o.dst=some t) (hx:Opd Γ x (.raw .nilslice)) (hh:Opd Γ hi (.val (zh .i64) 0))
 (r:zm C T d ops rest ((t,.raw .nilslice)::Γ) L Q):zm C T d ops (o::rest) Γ L Q:=by
 refine zam (by rw [ho]; rfl) hw hd (λz fr h s=>⟨.nilslice, ?_,zoU⟩) r;rw [ho];simp only [aop,hx.raw s.fr,hh.int s.fr,aslice,hu,hz,Option.map];rfl
theorem zxi {A:Type} {R:Rep A} {bytes:Nat} {st et xt:TypeId} {x0:A} {x y:Operand} {ats:Array TypeId} {n:Int} (hsl:Sl T st et R) (hty:Ty T et R bytes) (hz:Zr T et R x0) (hxt:T.und xt=some (.int .i64)) (hne:Nat.beq st xt=false) {xs:List A} (hn':zre bytes n x0=some xs) (hats:ats=#[st,xt]) (hw:Want ops Γ true o.guard) (ho:o.op=.call ⟨.builtin .append,#[x,y],ats⟩) (hd:o.dst=some t) (hx:Opd Γ x (.raw .nilslice)) (hy:Opd Γ y (.val (zh .i64) n)) (hls:d=none)
 (r:∀ v,zm C T d ops rest ((t,.raw v)::Γ) ((v,.row R xs)::L) Q):zm C T d ops (o::rest) Γ L Q:=by
 obtain ⟨hn,rfl⟩:=zrf hn';subst hats hls;intro fr h ⟨z,s⟩;obtain ⟨i,h1,h2,h3⟩:=hty.info;obtain ⟨zv,h4,h5⟩:=hz.zero;have h5:=h5 z;have hlen:=R.len _ _ _ h5.rel;have hst:st≠xt:=λe=>by subst e; simp at hne
 have ha:aop T fr.op h o.op=some (.val (.slice h.next 0 n.toNat R.sz none) (h.push (.arr (copies n.toNat zv.cells) false))):=by
  rw [ho];show abuiltin T .append #[st,xt] [fr.op x,fr.op y] h=_;simp only [abuiltin,aappend];rw [if_pos hst,hx.raw s.fr,hy.int s.fr];simp only [azeros,hxt,hsl.und,h1,h4];rw [h2,h3,if_neg (by rw [hlen]; have:=hty.pos; omega),if_pos hn];rfl
 simp only [wX,hw.ok s.fr,ha,hd,zaL];refine r _ _ _ ⟨z,(s.pushOwn _ rfl ?_).set zoU⟩;simp only [Obj.ok];have hcl:(copies n.toNat zv.cells).length=n.toNat*R.sz:=by rw [zew,hlen]
 refine ⟨by rw [List.length_replicate]; simp only [maxLen]; omega,.inr ⟨h.next,0,none,copies n.toNat zv.cells,by rw [List.length_replicate],by rw [za.get_push,if_pos rfl],by rw [List.length_replicate]; omega,λc hc=>(nomatch hc),λi x' hx=>?_⟩⟩;have hi:=(List.getElem?_eq_some_iff.1 hx).1;rw [List.length_replicate] at hi;rw [List.getElem?_replicate,if_pos hi] at hx;cases hx;rw [Nat.zero_add,← hlen,zgW _ hi];exact h5.rel
theorem zxj {A:Type} {R:Rep A} {xs:List A} {x hi:Operand} {st et:TypeId} {v:ze} (kk:Nat) (hsl:Sl T st et R) (h0:xs≠[]) (hw:Want ops Γ true o.guard) (ho:o.op=.slice st x none (some hi) none) (hd:o.dst=some t)
    (hx:Opd Γ x (.raw v)) (hk:L[kk]?=some (v,.row R xs)) (hh:Opd Γ hi (.val (zh .i64) 0)) {L':Own} (hL:zdU L kk=some L') (r:∀ v',zm C T d ops rest ((t,.raw v')::Γ) ((v',.row R ([]:List A))::L') Q):zm C T d ops (o::rest) Γ L Q:=by
  refine zoM (e:=λv'=>.raw v') (L':=λv'=>(v',.row R [])::L') (nf (by rw [ho]; rfl)) (λ_ _ _ _=>nfo (by rw [ho]; rfl)) hw hd (λz fr h s=>?_) r;have hp:=zeu hk hL;have hr:=s.own.ok _ (List.mem_of_getElem? hk);simp only [Obj.ok] at hr;rcases hr.2 with ⟨_,q⟩ | ⟨b,off,cap,cells,rfl,g1,g2,g3,g4⟩
  · exact absurd q h0
  · refine ⟨.slice b off 0 R.sz cap,h,.slice b off 0 R.sz cap, ?_,s.repack (L':=(.slice b off 0 R.sz cap,.row R [])::L') ?_ (λp hp'=>?_),by simp only [TE.ok]⟩
    · rw [ho];simp only [aop,hx.raw s.fr,hh.int s.fr,aslice,hsl.und,hsl.sz,Option.map];rw [if_pos (by exact ⟨trivial,hsl.pos⟩)];have a2:∀ m:Nat,abound (some (.int .i64 0)) xs.length m=some 0:=λm=>by simp [abound]
      cases cap with
      | none=>
        simp only [a2];simp [abound,zW]
      | some c=>
        simp only [a2];simp [abound,zW]
    · refine List.Perm.trans (List.Perm.of_eq ?_) (zqY hp);rw [zaa,zaa]; rfl
    · rcases List.mem_cons.1 hp' with rfl | hp'
      · simp only [Obj.ok];exact ⟨by simp [maxLen],.inr ⟨b,off,cap,cells,rfl,g1,by simp; omega,λc hc=>⟨by simp,(g3 c hc).2⟩,λi x hx=>by simp at hx⟩⟩
      · exact s.own.ok p (hp.mem_iff.1 (List.mem_cons_of_mem _ hp'))
theorem zxk {A B:Type} {K:Rep A} {R:Rep B} {x:Operand} {st kt et:TypeId} {ats:Array TypeId} {b:Nat} {es:List (A×B)} {n:Int} (kk:Nat) (hls:d=none) (hu:T.und st=some (.map kt et)) (hn:zs9 es=some n) (hats:ats=#[st]) (hk:L[kk]?=some (.map b,.mp K R es)) (hw:Want ops Γ true o.guard) (ho:o.op=.call ⟨.builtin .len,#[x],ats⟩) (hd:o.dst=some t) (hx:Opd Γ x (.raw (.map b)))
 (r:zm C T d ops rest ((t,.val (zh .i64) n)::Γ) L Q):zm C T d ops (o::rest) Γ L Q:=by
 subst hats hls;unfold zs9 at hn;split at hn
 case isFalse=>cases hn
 rename_i hb;cases hn;intro fr h ⟨z,s⟩;have hob:=s.own.ok _ (List.mem_of_getElem? hk);simp only [Obj.ok] at hob;obtain ⟨b',l,e,g1,g2,g3⟩:=hob;cases e;have ha:aop T fr.op h o.op=some (.val (.int .i64 es.length) h):=by
  rw [ho];show abuiltin T .len #[st] [fr.op x] h=_;simp only [abuiltin,hx.raw s.fr];show zW h (alen T st (.map b) h)=_;simp only [alen,hu,g1,zW,Option.map,g2]
 simp only [wX,hw.ok s.fr,ha,hd,zaL];refine r _ _ ⟨z,s.set (by simp only [TE.ok]; exact zbD (by show (-9223372036854775808:Int)<=_; omega) (by show _<=(9223372036854775807:Int); omega))⟩
end
end Go.Ai.Sx