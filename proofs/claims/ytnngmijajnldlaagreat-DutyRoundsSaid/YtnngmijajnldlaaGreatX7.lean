/- Fields that are known to be nil: rows that grow from nothing,in boxes. -/
import Derived.Test.YtnngmijajnldlaaGreatX5
set_option linter.unusedSimpArgs false
set_option linter.unusedVariables false
set_option linter.unusedSectionVars false
open Option renaming some→Ob,none→Oe
open Bool renaming false→Oc,true→Od
namespace Go.Ai.Sx
def zuJ:Rep Unit:=⟨1,Oc,λ_ cs _=>cs=[.nsz],λ_ _ _ h=>by rw [h]; rfl,λ_ _ _ _ _ h=>h,λ_=>rfl,λ_ _ _ h=>by rw [h]; rfl⟩
theorem zsl {z:Store}:zuJ.rel z [.nsz] ():=rfl
section
variable {C:Ctx} {M:Env} {L:Own}
theorem zuK {b:Nat} {es es':List TE}:∀ (L:Own) (m:Nat),L[m]?=Ob (.ptr b 0,.box es)->blks (L.set m (.ptr b 0,.box es'))=blks L:=by
 intro L;induction L with
 | nil=>intro m h; simp at h
 | cons p L ih=>
  intro m h;cases m with
  | zero=>simp at h; subst h; rw [List.set_cons_zero,zR,zR]; rfl
  | succ m=>rw [List.set_cons_succ,zR,zR,ih m (by simpa using h)]
theorem StZ.cell {z:Store} {fr:zi} {h:za} {b q:Nat} {es:List TE} {e e':TE} (s:StZ C M L z fr h) (m:Nat) {L':Own} (hm:L[m]?=Ob (.ptr b 0,.box es)) (hq:es[q]?=Ob e) (hi:∀ v,e.ok z v->e'.ok z v) (hL:zfE L m (.ptr b 0,.box (es.set q e'))=Ob L'):StZ C M L' z fr h:=by
 have hob:=s.own.ok _ (List.mem_of_getElem? hm);simp only [Obj.ok] at hob;obtain ⟨b',cells,q',g1,g2,g3⟩:=hob;cases q';obtain ⟨c,hc1,hc2⟩:=zjK g2 hq;have hset:cells.set q c=cells:=by
  apply List.ext_getElem?;intro i;rw [List.getElem?_set];split
  . rename_i e; subst e;rw [if_pos (List.getElem?_eq_some_iff.1 hc1).1,hc1]
  . rfl
 have hobj:(Obj.box (es.set q e')).ok z h (.ptr b 0):=by
  refine ⟨b,cells,rfl,g1, ?_,g3⟩;rw [← hset]; exact zg6 g2 (hi _ hc2)
 obtain ⟨rfl,hlt⟩:=zin hL;have hmem:∀ p∈L.set m (.ptr b 0,.box (es.set q e')),p=(.ptr b 0,.box (es.set q e'))\/p∈L:=by
  intro p hp;rcases List.mem_or_eq_of_mem_set hp with e | e
  . exact .inr e
  . exact .inl e
 refine { s with own:=⟨λp hp=>?_,λp hp=>?_,by rw [zuK L m hm]; exact s.own.nodup⟩ }
 . rcases hmem p hp with rfl | hp
   . exact hobj
   . exact s.own.ok p hp
 . rcases hmem p hp with rfl | hp
   . intro c' hc';exact s.own.out _ (List.mem_of_getElem? hm) c' (by simpa [zeP,zhm] using hc')
   . exact s.own.out p hp
theorem zsm {b q:Nat} {es:List TE} {e e':TE} (m:Nat) {L':Own} (hm:L[m]?=Ob (.ptr b 0,.box es)) (hq:es[q]?=Ob e) (hi:∀ z v,e.ok z v->e'.ok z v) (hL:zfE L m (.ptr b 0,.box (es.set q e'))=Ob L') :
 ∀ z fr h,StZ C M L z fr h->∃ z',z.le z'/\StZ C M L' z' fr h:=λz _ _ s=>⟨z,.refl _,s.cell m hm hq (hi z) hL⟩
theorem zlQ {b q:Nat} {es:List TE} {v:zd} (m:Nat) {L':Own} (hm:L[m]?=Ob (.ptr b 0,.box es)) (hq:es[q]?=Ob (.val zhH v)) (hL:zfE L m (.ptr b 0,.box (es.set q (.raw v)))=Ob L') :
 ∀ z fr h,StZ C M L z fr h->∃ z',z.le z'/\StZ C M L' z' fr h:=zsm m hm hq zuG hL
theorem zoV {A B:Type} {K:Rep A} {R:Rep B} {xs:List (A×B)} {b c q:Nat} {es:List TE} (k m:Nat) (ts:List Nat) {L' L'':Own} (hk:L[k]?=Ob (.map c,.mp K R xs)) (hL:zcR L k=Ob L') (hm:L'[m]?=Ob (.ptr b 0,.box es)) (hq:es[q]?=Ob (.raw (.map c))) (hL':zfE L' m (.ptr b 0,.box (es.set q (.val (zrj K R) xs)))=Ob L'') (hts:zir M (.map c) ts) :
 ∀ z fr h,StZ C M L z fr h->∃ z',z.le z'/\StZ C (zf2 ts (.val (zrj K R) xs) M) L'' z' fr h:=by
 intro z fr h s;obtain ⟨z',hz,s',hr⟩:=s.freezem hk hL;have s2:=s'.cell m hm hq (e':=.val (zrj K R) xs) (λv hv=>by simp only [TE.ok] at hv ⊢; rw [hv]; exact hr) hL';exact ⟨z',hz,{ s2 with fr:=zeI (by simp only [TE.ok]; exact hr) hts s2.fr }⟩
theorem zw9 {z:Store} {v:zd} {x:Unit} (h:TV zuJ z v x):v=.nsz:=by
 have h1:=h.rel;have h2:=h.agg;cases v<;>simp_all [zuJ,zd.cells,zd.isAgg]
theorem zuL:∀ z v,(TE.val zuJ ()).ok z v->(TE.raw .nsz).ok z v:=λz v h=>by
 simp only [TE.ok] at h ⊢;exact zw9 h
theorem zht {b q:Nat} {es:List TE} (m:Nat) {L':Own} (hm:L[m]?=Ob (.ptr b 0,.box es)) (hq:es[q]?=Ob (.val zuJ ())) (hL:zfE L m (.ptr b 0,.box (es.set q (.raw .nsz)))=Ob L') :
 ∀ z fr h,StZ C M L z fr h->∃ z',z.le z'/\StZ C M L' z' fr h:=zsm m hm hq zuL hL
end
def zqQ:List zd->Option zd
 | [.float .f64 b]=>(FloatKind.f64.format.sqrt b).map (zd.float .f64)
 | _=>Oe
theorem zuM {b r:Nat} (h:FloatKind.f64.format.sqrt b=Ob r):zqQ [.float .f64 b]=Ob (.float .f64 r):=by
 simp only [zqQ,h,Option.map]
def f2i (b:Nat):Option Int:=match (FloatKind.f64.decode b).toInt .zero with
 | some n=>if IntKind.i64.min<=n/\n<=IntKind.i64.max then Ob n else Oe
 | none=>Oe
def zoW {A:Type} (bytes:Nat) (n:Int) (x:A):Option (List A):=if 0<n/\n.toNat*bytes<=2 ^ 46/\n<=2 ^ 62 then Ob (List.replicate n.toNat x) else Oe
theorem zsn {A:Type} {bytes:Nat} {n:Int} {x:A} {xs:List A} (h:zoW bytes n x=Ob xs):(0<n/\n.toNat*bytes<=2 ^ 46/\n<=2 ^ 62)/\xs=List.replicate n.toNat x:=by
 unfold zoW at h;split at h
 . rename_i q; cases h; exact ⟨q,rfl⟩
 . cases h
def zuN {A B:Type} (es:List (A×B)):Option Int:=if es.length<=4611686018427387904 then Ob (es.length:Int) else Oe
def slz {A:Type} (xs:List A):Option Unit:=if xs.isEmpty then Oe else Ob ()
theorem zso {A:Type} {xs:List A} {u:Unit} (h:slz xs=Ob u):xs≠[]:=λe=>by subst e; cases h
section
variable {C:Ctx} {T:Tab} {d:Option (List Nat)} {ops rest:List Oper} {M:Env} {L:Own} {Q:zi->za->Prop} {P:zaQ->zi->za->Prop} {o:Oper} {t:Nat} {z:Store} {fr:zi} {h:za}
theorem zpK {v:zd} {z:Store}:TE.ok z (.raw v) v:=by simp only [TE.ok]
theorem zBu {x:Operand} {v:zd} (hx:Opd M x (.raw v)):∀ z fr,ziJ z M fr->[x].map fr.op=[v]:=λz fr hf=>by
 simp only [List.map,hx.raw hf]
theorem zBv {u u':TypeId} {k:IntKind} {x:Operand} {a:Int} (h1:(T.und u).isSome=Od) (h2:T.und u'=Ob (.float .f64)) (hw:Want ops M Od o.guard) (ho:o.op=.convert u u' x) (hd:o.dst=Ob t) (hx:Opd M x (.val (zh k) a))
 (r:zm C T d ops rest ((t,.raw (.float .f64 (FloatKind.f64.nearest a)))::M) L Q):zm C T d ops (o::rest) M L Q:=by
 refine zau (by rw [ho]; rfl) hw hd (λz fr h s=>⟨.float .f64 (FloatKind.f64.nearest a), ?_,zpK⟩) r;rw [ho];cases e:T.und u with
 | none=>rw [e] at h1; cases h1
 | some q=>simp [aop,aconvert,hx.int s.fr,h2,e,z6]
theorem zBw {u u':TypeId} {x:Operand} {b:Nat} {a:Int} (h1:(T.und u).isSome=Od) (h2:T.und u'=Ob (.int .i64)) (hf:f2i b=Ob a) (hw:Want ops M Od o.guard) (ho:o.op=.convert u u' x) (hd:o.dst=Ob t) (hx:Opd M x (.raw (.float .f64 b)))
    (r:zm C T d ops rest ((t,.val (zh .i64) a)::M) L Q):zm C T d ops (o::rest) M L Q:=by
  unfold f2i at hf;cases e1:(FloatKind.f64.decode b).toInt .zero with
  | none=>rw [e1] at hf; cases hf
  | some n=>
    rw [e1] at hf;simp only at hf;split at hf
    case isFalse=>cases hf
    rename_i hr;cases hf;refine zau (by rw [ho]; rfl) hw hd (λz fr h s=>⟨.int .i64 a, ?_,by simp only [TE.ok]; exact zbW hr.1 hr.2⟩) r;rw [ho];cases e:T.und u with
    | none=>rw [e] at h1; cases h1
    | some q=>simp only [aop,aconvert,hx.raw s.fr,h2,e,e1,if_pos hr,z6,Option.map]
theorem zg8 {s:ByteArray} {tbl:List Int} {st:TypeId} {y:Operand} {k:IntKind} {i a:Int} (hu:T.und st=Ob .string) (ht:s.data.toList.map (λb=>((b.toNat:Nat):Int))=tbl) (hi:idx tbl i=Ob a) (hw:Want ops M Od o.guard) (ho:o.op=.index st (.const (.string s)) y) (hd:o.dst=Ob t) (hy:Opd M y (.val (zh k) i))
 (r:zm C T d ops rest ((t,.val (zh .u8) a)::M) L Q):zm C T d ops (o::rest) M L Q:=by
 obtain ⟨h0,h1,h2,h3⟩:=zdi hi;rw [← ht,List.getElem?_map,Option.map_eq_some_iff] at h3;obtain ⟨b,hb1,hb2⟩:=h3;have hb:s[i.toNat]?=Ob b:=by
  rw [← hb1];show s[i.toNat]?=s.data.toList[i.toNat]?;rw [Array.getElem?_toList];rfl
 refine zau (by rw [ho]; rfl) hw hd (λz fr h s'=>⟨.int .u8 a, ?_, ?_⟩) r
 . rw [ho];simp only [aop,hy.int s'.fr];show z6 h (aindex T st (.str s) (.int k i))=_;simp only [aindex,hu,h0,if_true,hb,Option.map,z6,hb2]
 . simp only [TE.ok];have:=b.toNat_lt;rw [← hb2];exact zbW (by show (0:Int)<=_; omega) (by show _<=(255:Int); omega)
theorem znP {A:Type} {R:Rep A} {at_ et:TypeId} {n:Nat} {zc:List zd} {parts:Array (Nat×Operand)} {as:List A} (i0:Nat) (x0:A) (har:Ar1 T at_ et n R) (hz:zeS T at_=Ob (.agg zc)) (hzl:zc.length=n*R.sz) (hx:∀ z j,j<i0->R.rel z ((zc.drop (j*R.sz)).take R.sz) x0) (hw:Want ops M Od o.guard) (ho:o.op=.build at_ parts) (hd:o.dst=Ob t) (he:Elts M R i0 parts.toList as) (hn:i0+as.length=n)
 (r:zm C T d ops rest ((t,.val (zjJ n R) (List.replicate i0 x0++as))::M) L Q):zm C T d ops (o::rest) M L Q:=by
 refine zau (by rw [ho]; rfl) hw hd (λz fr h s=>?_) r;obtain ⟨cells,h3,h4,h6,h5⟩:=zkq he s.fr har.pos zc (by rw [hzl,← hn]);refine ⟨.agg cells, ?_, ?_⟩
 . rw [ho];simp only [aop,abuild,hz,har.und,har.sz,zd.cells,h3,z6,Option.map]
 . simp only [TE.ok];have hl:(List.replicate i0 x0++as).length=n:=by rw [List.length_append,List.length_replicate,hn]
   have hp:∀ i x,(List.replicate i0 x0++as)[i]?=Ob x->R.rel z ((cells.drop (i*R.sz)).take R.sz) x:=λi x hx'=>by
    rw [List.getElem?_append,List.length_replicate] at hx';split at hx'
    . rename_i hlt;rw [List.getElem?_replicate,if_pos hlt] at hx';cases hx';rw [h6 i hlt];exact hx z i hlt
    . have:=h5 _ x hx';rwa [show i0+(i-i0)=i by omega] at this
   exact ⟨⟨hl,by simp only [zd.cells]; rw [h4,hzl],ziY (l:=cells) har.pos (by rw [h4,hzl,hl]) hp,hp⟩,rfl⟩
theorem zix {A:Type} (R:Rep A) {n:Nat} (hl:look M n=Ob (.raw .nsz)):∀ z fr h,StZ C M L z fr h->∃ z',z.le z'/\StZ C ((n,.val (zb R) [])::M) L z' fr h:=λz fr h s=>by
 have h1:=s.fr _ _ hl;simp only [TE.ok] at h1;exact ⟨z,.refl _,{ s with fr:=zi1 s.fr (by simp only [TE.ok]; rw [h1]; exact zbU ziW) }⟩
theorem zjQ {x:Operand} {st et:TypeId} {ats:Array TypeId} (hu:T.und st=Ob (.slice et)) (hats:ats=#[st]) (hw:Want ops M Od o.guard) (ho:o.op=.call ⟨.builtin .cap,#[x],ats⟩) (hd:o.dst=Ob t) (hx:Opd M x (.raw .nsz))
 (r:zm C T d ops rest ((t,.val (zh .i64) 0)::M) L Q):zm C T d ops (o::rest) M L Q:=by
 subst hats;refine zau (by rw [ho]; rfl) hw hd (λz fr h s=>⟨.int .i64 0, ?_,by simp only [TE.ok]; exact zbW Oa Oa⟩) r;rw [ho];show abuiltin T .cap #[st] [fr.op x] h=_;simp only [abuiltin,hx.raw s.fr];show z6 h (acap T st .nsz)=_;simp only [acap,hu,z6,Option.map]
theorem zsp {x hi:Operand} {st et:TypeId} {n:Nat} (hu:T.und st=Ob (.slice et)) (hz:szT T et=Ob n) (hw:Want ops M Od o.guard) (ho:o.op=.slice st x Oe (Ob hi) Oe) (hd:o.dst=Ob t) (hx:Opd M x (.raw .nsz)) (hh:Opd M hi (.val (zh .i64) 0))
 (r:zm C T d ops rest ((t,.raw .nsz)::M) L Q):zm C T d ops (o::rest) M L Q:=by
 refine zau (by rw [ho]; rfl) hw hd (λz fr h s=>⟨.nsz, ?_,zpK⟩) r;rw [ho];simp only [aop,hx.raw s.fr,hh.int s.fr,aslice,hu,hz,Option.map];rfl
theorem zv7 {A:Type} {R:Rep A} {bytes:Nat} {st et xt:TypeId} {x0:A} {x y:Operand} {ats:Array TypeId} {n:Int} (hsl:Sl T st et R) (hty:Ty T et R bytes) (hz:Zr T et R x0) (hxt:T.und xt=Ob (.int .i64)) (hne:Nat.beq st xt=Oc) {xs:List A} (hn':zoW bytes n x0=Ob xs) (hats:ats=#[st,xt]) (hw:Want ops M Od o.guard) (ho:o.op=.call ⟨.builtin .append,#[x,y],ats⟩) (hd:o.dst=Ob t) (hx:Opd M x (.raw .nsz)) (hy:Opd M y (.val (zh .i64) n)) (hls:d=Oe)
 (r:∀ v,zm C T d ops rest ((t,.raw v)::M) ((v,.row R xs)::L) Q):zm C T d ops (o::rest) M L Q:=by
 obtain ⟨hn,rfl⟩:=zsn hn';subst hats hls;intro fr h ⟨z,s⟩;obtain ⟨i,h1,h2,h3⟩:=hty.info;obtain ⟨zv,h4,h5⟩:=hz.zero;have h5:=h5 z;have hlen:=R.len _ _ _ h5.rel;have hst:st≠xt:=λe=>by subst e; simp at hne
 have ha:aop T fr.op h o.op=Ob (.val (.slice h.next 0 n.toNat R.sz Oe) (h.push (.arr (copies n.toNat zv.cells) Oc))):=by
  rw [ho];show abuiltin T .append #[st,xt] [fr.op x,fr.op y] h=_;simp only [abuiltin,aappend];rw [if_pos hst,hx.raw s.fr,hy.int s.fr];simp only [azeros,hxt,hsl.und,h1,h4];rw [h2,h3,if_neg (by rw [hlen]; have:=hty.pos; omega),if_pos hn];rfl
 simp only [wX,hw.ok s.fr,ha,hd,zaU];refine r _ _ _ ⟨z,(s.pushOwn _ rfl ?_).set zpK⟩;simp only [Obj.ok];have hcl:(copies n.toNat zv.cells).length=n.toNat*R.sz:=by rw [zeJ,hlen]
 refine ⟨by rw [List.length_replicate]; simp only [maxLen]; omega,.inr ⟨h.next,0,Oe,copies n.toNat zv.cells,by rw [List.length_replicate],by rw [za.get_push,if_pos rfl],by rw [List.length_replicate]; omega,λc hc=>(nomatch hc),λi x' hx=>?_⟩⟩;have hi:=(List.getElem?_eq_some_iff.1 hx).1;rw [List.length_replicate] at hi;rw [List.getElem?_replicate,if_pos hi] at hx;cases hx;rw [Nat.zero_add,← hlen,zg5 _ hi];exact h5.rel
theorem zv8 {A:Type} {R:Rep A} {xs:List A} {x hi:Operand} {st et:TypeId} {v:zd} (kk:Nat) (hsl:Sl T st et R) (h0:xs≠[]) (hw:Want ops M Od o.guard) (ho:o.op=.slice st x Oe (Ob hi) Oe) (hd:o.dst=Ob t)
    (hx:Opd M x (.raw v)) (hk:L[kk]?=Ob (v,.row R xs)) (hh:Opd M hi (.val (zh .i64) 0)) {L':Own} (hL:zcR L kk=Ob L') (r:∀ v',zm C T d ops rest ((t,.raw v')::M) ((v',.row R ([]:List A))::L') Q):zm C T d ops (o::rest) M L Q:=by
  refine zpx (e:=λv'=>.raw v') (L':=λv'=>(v',.row R [])::L') (nf (by rw [ho]; rfl)) (λ_ _ _ _=>nfo (by rw [ho]; rfl)) hw hd (λz fr h s=>?_) r;have hp:=zce hk hL;have hr:=s.own.ok _ (List.mem_of_getElem? hk);simp only [Obj.ok] at hr;rcases hr.2 with ⟨_,q⟩ | ⟨b,off,cap,cells,rfl,g1,g2,g3,g4⟩
  · exact absurd q h0
  · refine ⟨.slice b off 0 R.sz cap,h,.slice b off 0 R.sz cap, ?_,s.repack (L':=(.slice b off 0 R.sz cap,.row R [])::L') ?_ (λp hp'=>?_),by simp only [TE.ok]⟩
    · rw [ho];simp only [aop,hx.raw s.fr,hh.int s.fr,aslice,hsl.und,hsl.sz,Option.map];rw [if_pos (by exact ⟨trivial,hsl.pos⟩)];have a2:∀ m:Nat,abound (Ob (.int .i64 0)) xs.length m=Ob 0:=λm=>by simp [abound]
      cases cap with
      | none=>
        simp only [a2];simp [abound,z6]
      | some c=>
        simp only [a2];simp [abound,z6]
    · refine List.Perm.trans (List.Perm.of_eq ?_) (zgh hp);rw [zR,zR]; rfl
    · rcases List.mem_cons.1 hp' with rfl | hp'
      · simp only [Obj.ok];exact ⟨by simp [maxLen],.inr ⟨b,off,cap,cells,rfl,g1,by simp; omega,λc hc=>⟨by simp,(g3 c hc).2⟩,λi x hx=>by simp at hx⟩⟩
      · exact s.own.ok p (hp.mem_iff.1 (List.mem_cons_of_mem _ hp'))
theorem zzF {A B:Type} {K:Rep A} {R:Rep B} {x:Operand} {st kt et:TypeId} {ats:Array TypeId} {b:Nat} {es:List (A×B)} {n:Int} (kk:Nat) (hls:d=Oe) (hu:T.und st=Ob (.map kt et)) (hn:zuN es=Ob n) (hats:ats=#[st]) (hk:L[kk]?=Ob (.map b,.mp K R es)) (hw:Want ops M Od o.guard) (ho:o.op=.call ⟨.builtin .len,#[x],ats⟩) (hd:o.dst=Ob t) (hx:Opd M x (.raw (.map b)))
 (r:zm C T d ops rest ((t,.val (zh .i64) n)::M) L Q):zm C T d ops (o::rest) M L Q:=by
 subst hats hls;unfold zuN at hn;split at hn
 case isFalse=>cases hn
 rename_i hb;cases hn;intro fr h ⟨z,s⟩;have hob:=s.own.ok _ (List.mem_of_getElem? hk);simp only [Obj.ok] at hob;obtain ⟨b',l,e,g1,g2,g3⟩:=hob;cases e;have ha:aop T fr.op h o.op=Ob (.val (.int .i64 es.length) h):=by
  rw [ho];show abuiltin T .len #[st] [fr.op x] h=_;simp only [abuiltin,hx.raw s.fr];show z6 h (alen T st (.map b) h)=_;simp only [alen,hu,g1,z6,Option.map,g2]
 simp only [wX,hw.ok s.fr,ha,hd,zaU];refine r _ _ ⟨z,s.set (by simp only [TE.ok]; exact zbW (by show (-9223372036854775808:Int)<=_; omega) (by show _<=(9223372036854775807:Int); omega))⟩
end
end Go.Ai.Sx