/- Fields that are known to be nil: rows that grow from nothing,in boxes. -/
import Derived.Test.YtfamdelkpempgaaGreatW5
set_option linter.unusedSimpArgs false
set_option linter.unusedVariables false
set_option linter.unusedSectionVars false
open Option renaming some→Ob,none→Oe
open Bool renaming false→Oc,true→Od
namespace Go.Ai.Sx
def zsB:Rep Unit:=⟨1,Oc,λ_ cs _=>cs=[.nsz],λ_ _ _ h=>by rw [h]; rfl,λ_ _ _ _ _ h=>h,λ_=>rfl,λ_ _ _ h=>by rw [h]; rfl⟩
theorem zrg {z:Store}:zsB.rel z [.nsz] ():=rfl
section
variable {C:Ctx} {M:Env} {L:Own}
theorem zu4 {b:Nat} {es es':List TE}:∀ (L:Own) (m:Nat),L[m]?=Ob (.ptr b 0,.box es)->blks (L.set m (.ptr b 0,.box es'))=blks L:=by
 intro L;induction L with
 | nil=>intro m h; simp at h
 | cons p L ih=>
  intro m h;cases m with
  | zero=>simp at h; subst h; rw [List.set_cons_zero,zP,zP]; rfl
  | succ m=>rw [List.set_cons_succ,zP,zP,ih m (by simpa using h)]
theorem StZ.cell {z:Store} {fr:zg} {h:za} {b q:Nat} {es:List TE} {e e':TE} (s:StZ C M L z fr h) (m:Nat) {L':Own} (hm:L[m]?=Ob (.ptr b 0,.box es)) (hq:es[q]?=Ob e) (hi:∀ v,e.ok z v->e'.ok z v) (hL:zeQ L m (.ptr b 0,.box (es.set q e'))=Ob L'):StZ C M L' z fr h:=by
 have hob:=s.own.ok _ (List.mem_of_getElem? hm);simp only [Obj.ok] at hob;obtain ⟨b',cells,q',g1,g2,g3⟩:=hob;cases q';obtain ⟨c,hc1,hc2⟩:=zjT g2 hq;have hset:cells.set q c=cells:=by
  apply List.ext_getElem?;intro i;rw [List.getElem?_set];split
  . rename_i e; subst e;rw [if_pos (List.getElem?_eq_some_iff.1 hc1).1,hc1]
  . rfl
 have hobj:(Obj.box (es.set q e')).ok z h (.ptr b 0):=by
  refine ⟨b,cells,rfl,g1, ?_,g3⟩;rw [← hset]; exact zhh g2 (hi _ hc2)
 obtain ⟨rfl,hlt⟩:=ziu hL;have hmem:∀ p∈L.set m (.ptr b 0,.box (es.set q e')),p=(.ptr b 0,.box (es.set q e'))\/p∈L:=by
  intro p hp;rcases List.mem_or_eq_of_mem_set hp with e | e
  . exact .inr e
  . exact .inl e
 refine { s with own:=⟨λp hp=>?_,λp hp=>?_,by rw [zu4 L m hm]; exact s.own.nodup⟩ }
 . rcases hmem p hp with rfl | hp
   . exact hobj
   . exact s.own.ok p hp
 . rcases hmem p hp with rfl | hp
   . intro c' hc';exact s.own.out _ (List.mem_of_getElem? hm) c' (by simpa [zfl,zhy] using hc')
   . exact s.own.out p hp
theorem zsC {b q:Nat} {es:List TE} {e e':TE} (m:Nat) {L':Own} (hm:L[m]?=Ob (.ptr b 0,.box es)) (hq:es[q]?=Ob e) (hi:∀ z v,e.ok z v->e'.ok z v) (hL:zeQ L m (.ptr b 0,.box (es.set q e'))=Ob L') :
 ∀ z fr h,StZ C M L z fr h->∃ z',z.le z'/\StZ C M L' z' fr h:=λz _ _ s=>⟨z,.refl _,s.cell m hm hq (hi z) hL⟩
theorem zlP {b q:Nat} {es:List TE} {v:zb} (m:Nat) {L':Own} (hm:L[m]?=Ob (.ptr b 0,.box es)) (hq:es[q]?=Ob (.val zjD v)) (hL:zeQ L m (.ptr b 0,.box (es.set q (.raw v)))=Ob L') :
 ∀ z fr h,StZ C M L z fr h->∃ z',z.le z'/\StZ C M L' z' fr h:=zsC m hm hq zu1 hL
theorem zkF {A B:Type} {K:Rep A} {R:Rep B} {xs:List (A×B)} {b c q:Nat} {es:List TE} (k m:Nat) (ts:List Nat) {L' L'':Own} (hk:L[k]?=Ob (.map c,.mp K R xs)) (hL:zcW L k=Ob L') (hm:L'[m]?=Ob (.ptr b 0,.box es)) (hq:es[q]?=Ob (.raw (.map c))) (hL':zeQ L' m (.ptr b 0,.box (es.set q (.val (zoC K R) xs)))=Ob L'') (hts:zjB M (.map c) ts) :
 ∀ z fr h,StZ C M L z fr h->∃ z',z.le z'/\StZ C (zgS ts (.val (zoC K R) xs) M) L'' z' fr h:=by
 intro z fr h s;obtain ⟨z',hz,s',hr⟩:=s.freezem hk hL;have s2:=s'.cell m hm hq (e':=.val (zoC K R) xs) (λv hv=>by simp only [TE.ok] at hv ⊢; rw [hv]; exact hr) hL';exact ⟨z',hz,{ s2 with fr:=zfH (by simp only [TE.ok]; exact hr) hts s2.fr }⟩
theorem zxr {z:Store} {v:zb} {x:Unit} (h:TV zsB z v x):v=.nsz:=by
 have h1:=h.rel;have h2:=h.agg;cases v<;>simp_all [zsB,zb.cells,zb.isAgg]
theorem zu5:∀ z v,(TE.val zsB ()).ok z v->(TE.raw .nsz).ok z v:=λz v h=>by
 simp only [TE.ok] at h ⊢;exact zxr h
theorem zfJ {b q:Nat} {es:List TE} (m:Nat) {L':Own} (hm:L[m]?=Ob (.ptr b 0,.box es)) (hq:es[q]?=Ob (.val zsB ())) (hL:zeQ L m (.ptr b 0,.box (es.set q (.raw .nsz)))=Ob L') :
 ∀ z fr h,StZ C M L z fr h->∃ z',z.le z'/\StZ C M L' z' fr h:=zsC m hm hq zu5 hL
theorem zsD {n:Nat} (hl:look M n=Ob (.raw .nsz)):∀ z fr h,StZ C M L z fr h->∃ z',z.le z'/\StZ C ((n,.val zsB ())::M) L z' fr h:=λz fr h s=>by
 have h1:=s.fr _ _ hl;simp only [TE.ok] at h1;exact ⟨z,.refl _,{ s with fr:=zi9 s.fr (by simp only [TE.ok]; rw [h1]; exact ⟨rfl,rfl⟩) }⟩
end
def zrh:List zb->Option zb
 | [.float .f64 b]=>(FloatKind.f64.format.sqrt b).map (zb.float .f64)
 | _=>Oe
theorem zu6 {b r:Nat} (h:FloatKind.f64.format.sqrt b=Ob r):zrh [.float .f64 b]=Ob (.float .f64 r):=by
 simp only [zrh,h,Option.map]
def f2i (b:Nat):Option Int:=match (FloatKind.f64.decode b).toInt .zero with
 | some n=>if IntKind.i64.min<=n/\n<=IntKind.i64.max then Ob n else Oe
 | none=>Oe
def zo9 {A:Type} (bytes:Nat) (n:Int) (x:A):Option (List A):=if 0<n/\n.toNat*bytes<=2 ^ 46/\n<=2 ^ 62 then Ob (List.replicate n.toNat x) else Oe
theorem zsE {A:Type} {bytes:Nat} {n:Int} {x:A} {xs:List A} (h:zo9 bytes n x=Ob xs):(0<n/\n.toNat*bytes<=2 ^ 46/\n<=2 ^ 62)/\xs=List.replicate n.toNat x:=by
 unfold zo9 at h;split at h
 . rename_i q; cases h; exact ⟨q,rfl⟩
 . cases h
def zu7 {A B:Type} (es:List (A×B)):Option Int:=if es.length<=4611686018427387904 then Ob (es.length:Int) else Oe
def slz {A:Type} (xs:List A):Option Unit:=if xs.isEmpty then Oe else Ob ()
theorem zsF {A:Type} {xs:List A} {u:Unit} (h:slz xs=Ob u):xs≠[]:=λe=>by subst e; cases h
section
variable {C:Ctx} {T:Tab} {d:Option (List Nat)} {ops rest:List Oper} {M:Env} {L:Own} {Q:zg->za->Prop} {P:zaC->zg->za->Prop} {o:Oper} {t:Nat} {z:Store} {fr:zg} {h:za}
theorem zp6 {v:zb} {z:Store}:TE.ok z (.raw v) v:=by simp only [TE.ok]
theorem zBk {x:Operand} {v:zb} (hx:Opd M x (.raw v)):∀ z fr,ziM z M fr->[x].map fr.op=[v]:=λz fr hf=>by
 simp only [List.map,hx.raw hf]
theorem zBl {u u':TypeId} {k:IntKind} {x:Operand} {a:Int} (h1:(T.und u).isSome=Od) (h2:T.und u'=Ob (.float .f64)) (hw:Want ops M Od o.guard) (ho:o.op=.convert u u' x) (hd:o.dst=Ob t) (hx:Opd M x (.val (zi k) a))
 (r:zr C T d ops rest ((t,.raw (.float .f64 (FloatKind.f64.nearest a)))::M) L Q):zr C T d ops (o::rest) M L Q:=by
 refine zal (by rw [ho]; rfl) hw hd (λz fr h s=>⟨.float .f64 (FloatKind.f64.nearest a), ?_,zp6⟩) r;rw [ho];cases e:T.und u with
 | none=>rw [e] at h1; cases h1
 | some q=>simp [aop,aconvert,hx.int s.fr,h2,e,zae]
theorem zBm {u u':TypeId} {x:Operand} {b:Nat} {a:Int} (h1:(T.und u).isSome=Od) (h2:T.und u'=Ob (.int .i64)) (hf:f2i b=Ob a) (hw:Want ops M Od o.guard) (ho:o.op=.convert u u' x) (hd:o.dst=Ob t) (hx:Opd M x (.raw (.float .f64 b)))
    (r:zr C T d ops rest ((t,.val (zi .i64) a)::M) L Q):zr C T d ops (o::rest) M L Q:=by
  unfold f2i at hf;cases e1:(FloatKind.f64.decode b).toInt .zero with
  | none=>rw [e1] at hf; cases hf
  | some n=>
    rw [e1] at hf;simp only at hf;split at hf
    case isFalse=>cases hf
    rename_i hr;cases hf;refine zal (by rw [ho]; rfl) hw hd (λz fr h s=>⟨.int .i64 a, ?_,by simp only [TE.ok]; exact zcc hr.1 hr.2⟩) r;rw [ho];cases e:T.und u with
    | none=>rw [e] at h1; cases h1
    | some q=>simp only [aop,aconvert,hx.raw s.fr,h2,e,e1,if_pos hr,zae,Option.map]
theorem zhk {s:ByteArray} {tbl:List Int} {st:TypeId} {y:Operand} {k:IntKind} {i a:Int} (hu:T.und st=Ob .string) (ht:s.data.toList.map (λb=>((b.toNat:Nat):Int))=tbl) (hi:idx tbl i=Ob a) (hw:Want ops M Od o.guard) (ho:o.op=.index st (.const (.string s)) y) (hd:o.dst=Ob t) (hy:Opd M y (.val (zi k) i))
 (r:zr C T d ops rest ((t,.val (zi .u8) a)::M) L Q):zr C T d ops (o::rest) M L Q:=by
 obtain ⟨h0,h1,h2,h3⟩:=zfq hi;rw [← ht,List.getElem?_map,Option.map_eq_some_iff] at h3;obtain ⟨b,hb1,hb2⟩:=h3;have hb:s[i.toNat]?=Ob b:=by
  rw [← hb1];show s[i.toNat]?=s.data.toList[i.toNat]?;rw [Array.getElem?_toList];rfl
 refine zal (by rw [ho]; rfl) hw hd (λz fr h s'=>⟨.int .u8 a, ?_, ?_⟩) r
 . rw [ho];simp only [aop,hy.int s'.fr];show zae h (aindex T st (.str s) (.int k i))=_;simp only [aindex,hu,h0,if_true,hb,Option.map,zae,hb2]
 . simp only [TE.ok];have:=b.toNat_lt;rw [← hb2];exact zcc (by show (0:Int)<=_; omega) (by show _<=(255:Int); omega)
theorem zn2 {A:Type} {R:Rep A} {at_ et:TypeId} {n:Nat} {zc:List zb} {parts:Array (Nat×Operand)} {as:List A} (i0:Nat) (x0:A) (har:Ar1 T at_ et n R) (hz:zeJ T at_=Ob (.agg zc)) (hzl:zc.length=n*R.sz) (hx:∀ z j,j<i0->R.rel z ((zc.drop (j*R.sz)).take R.sz) x0) (hw:Want ops M Od o.guard) (ho:o.op=.build at_ parts) (hd:o.dst=Ob t) (he:Elts M R i0 parts.toList as) (hn:i0+as.length=n)
 (r:zr C T d ops rest ((t,.val (zhG n R) (List.replicate i0 x0++as))::M) L Q):zr C T d ops (o::rest) M L Q:=by
 refine zal (by rw [ho]; rfl) hw hd (λz fr h s=>?_) r;obtain ⟨cells,h3,h4,h6,h5⟩:=zkt he s.fr har.pos zc (by rw [hzl,← hn]);refine ⟨.agg cells, ?_, ?_⟩
 . rw [ho];simp only [aop,abuild,hz,har.und,har.sz,zb.cells,h3,zae,Option.map]
 . simp only [TE.ok];have hl:(List.replicate i0 x0++as).length=n:=by rw [List.length_append,List.length_replicate,hn]
   have hp:∀ i x,(List.replicate i0 x0++as)[i]?=Ob x->R.rel z ((cells.drop (i*R.sz)).take R.sz) x:=λi x hx'=>by
    rw [List.getElem?_append,List.length_replicate] at hx';split at hx'
    . rename_i hlt;rw [List.getElem?_replicate,if_pos hlt] at hx';cases hx';rw [h6 i hlt];exact hx z i hlt
    . have:=h5 _ x hx';rwa [show i0+(i-i0)=i by omega] at this
   exact ⟨⟨hl,by simp only [zb.cells]; rw [h4,hzl],zi8 (l:=cells) har.pos (by rw [h4,hzl,hl]) hp,hp⟩,rfl⟩
theorem ziC {A:Type} (R:Rep A) {n:Nat} (hl:look M n=Ob (.raw .nsz)):∀ z fr h,StZ C M L z fr h->∃ z',z.le z'/\StZ C ((n,.val (ze R) [])::M) L z' fr h:=λz fr h s=>by
 have h1:=s.fr _ _ hl;simp only [TE.ok] at h1;exact ⟨z,.refl _,{ s with fr:=zi9 s.fr (by simp only [TE.ok]; rw [h1]; exact zbo zi7) }⟩
theorem zjZ {x:Operand} {st et:TypeId} {ats:Array TypeId} (hu:T.und st=Ob (.slice et)) (hats:ats=#[st]) (hw:Want ops M Od o.guard) (ho:o.op=.call ⟨.builtin .cap,#[x],ats⟩) (hd:o.dst=Ob t) (hx:Opd M x (.raw .nsz))
 (r:zr C T d ops rest ((t,.val (zi .i64) 0)::M) L Q):zr C T d ops (o::rest) M L Q:=by
 subst hats;refine zal (by rw [ho]; rfl) hw hd (λz fr h s=>⟨.int .i64 0, ?_,by simp only [TE.ok]; exact zcc Oa Oa⟩) r;rw [ho];show abuiltin T .cap #[st] [fr.op x] h=_;simp only [abuiltin,hx.raw s.fr];show zae h (acap T st .nsz)=_;simp only [acap,hu,zae,Option.map]
theorem zsG {x hi:Operand} {st et:TypeId} {n:Nat} (hu:T.und st=Ob (.slice et)) (hz:szT T et=Ob n) (hw:Want ops M Od o.guard) (ho:o.op=.slice st x Oe (Ob hi) Oe) (hd:o.dst=Ob t) (hx:Opd M x (.raw .nsz)) (hh:Opd M hi (.val (zi .i64) 0))
 (r:zr C T d ops rest ((t,.raw .nsz)::M) L Q):zr C T d ops (o::rest) M L Q:=by
 refine zal (by rw [ho]; rfl) hw hd (λz fr h s=>⟨.nsz, ?_,zp6⟩) r;rw [ho];simp only [aop,hx.raw s.fr,hh.int s.fr,aslice,hu,hz,Option.map];rfl
theorem zwq {A:Type} {R:Rep A} {bytes:Nat} {st et xt:TypeId} {x0:A} {x y:Operand} {ats:Array TypeId} {n:Int} (hsl:Sl T st et R) (hty:Ty T et R bytes) (hz:Zr T et R x0) (hxt:T.und xt=Ob (.int .i64)) (hne:Nat.beq st xt=Oc) {xs:List A} (hn':zo9 bytes n x0=Ob xs) (hats:ats=#[st,xt]) (hw:Want ops M Od o.guard) (ho:o.op=.call ⟨.builtin .append,#[x,y],ats⟩) (hd:o.dst=Ob t) (hx:Opd M x (.raw .nsz)) (hy:Opd M y (.val (zi .i64) n)) (hls:d=Oe)
 (r:∀ v,zr C T d ops rest ((t,.raw v)::M) ((v,.row R xs)::L) Q):zr C T d ops (o::rest) M L Q:=by
 obtain ⟨hn,rfl⟩:=zsE hn';subst hats hls;intro fr h ⟨z,s⟩;obtain ⟨i,h1,h2,h3⟩:=hty.info;obtain ⟨zv,h4,h5⟩:=hz.zero;have h5:=h5 z;have hlen:=R.len _ _ _ h5.rel;have hst:st≠xt:=λe=>by subst e; simp at hne
 have ha:aop T fr.op h o.op=Ob (.val (.slice h.next 0 n.toNat R.sz Oe) (h.push (.arr (copies n.toNat zv.cells) Oc))):=by
  rw [ho];show abuiltin T .append #[st,xt] [fr.op x,fr.op y] h=_;simp only [abuiltin,aappend];rw [if_pos hst,hx.raw s.fr,hy.int s.fr];simp only [azeros,hxt,hsl.und,h1,h4];rw [h2,h3,if_neg (by rw [hlen]; have:=hty.pos; omega),if_pos hn];rfl
 simp only [wX,hw.ok s.fr,ha,hd,zbl];refine r _ _ _ ⟨z,(s.pushOwn _ rfl ?_).set zp6⟩;simp only [Obj.ok];have hcl:(copies n.toNat zv.cells).length=n.toNat*R.sz:=by rw [zeR,hlen]
 refine ⟨by rw [List.length_replicate]; simp only [maxLen]; omega,.inr ⟨h.next,0,Oe,copies n.toNat zv.cells,by rw [List.length_replicate],by rw [za.get_push,if_pos rfl],by rw [List.length_replicate]; omega,λc hc=>(nomatch hc),λi x' hx=>?_⟩⟩;have hi:=(List.getElem?_eq_some_iff.1 hx).1;rw [List.length_replicate] at hi;rw [List.getElem?_replicate,if_pos hi] at hx;cases hx;rw [Nat.zero_add,← hlen,zhg _ hi];exact h5.rel
theorem zwr {A:Type} {R:Rep A} {xs:List A} {x hi:Operand} {st et:TypeId} {v:zb} (kk:Nat) (hsl:Sl T st et R) (h0:xs≠[]) (hw:Want ops M Od o.guard) (ho:o.op=.slice st x Oe (Ob hi) Oe) (hd:o.dst=Ob t)
    (hx:Opd M x (.raw v)) (hk:L[kk]?=Ob (v,.row R xs)) (hh:Opd M hi (.val (zi .i64) 0)) {L':Own} (hL:zcW L kk=Ob L') (r:∀ v',zr C T d ops rest ((t,.raw v')::M) ((v',.row R ([]:List A))::L') Q):zr C T d ops (o::rest) M L Q:=by
  refine znP (e:=λv'=>.raw v') (L':=λv'=>(v',.row R [])::L') (nf (by rw [ho]; rfl)) (λ_ _ _ _=>nfo (by rw [ho]; rfl)) hw hd (λz fr h s=>?_) r;have hp:=zcO hk hL;have hr:=s.own.ok _ (List.mem_of_getElem? hk);simp only [Obj.ok] at hr;rcases hr.2 with ⟨_,q⟩ | ⟨b,off,cap,cells,rfl,g1,g2,g3,g4⟩
  · exact absurd q h0
  · refine ⟨.slice b off 0 R.sz cap,h,.slice b off 0 R.sz cap, ?_,s.repack (L':=(.slice b off 0 R.sz cap,.row R [])::L') ?_ (λp hp'=>?_),by simp only [TE.ok]⟩
    · rw [ho];simp only [aop,hx.raw s.fr,hh.int s.fr,aslice,hsl.und,hsl.sz,Option.map];rw [if_pos (by exact ⟨trivial,hsl.pos⟩)];have a2:∀ m:Nat,abound (Ob (.int .i64 0)) xs.length m=Ob 0:=λm=>by simp [abound]
      cases cap with
      | none=>
        simp only [a2];simp [abound,zae]
      | some c=>
        simp only [a2];simp [abound,zae]
    · refine List.Perm.trans (List.Perm.of_eq ?_) (zgw hp);rw [zP,zP]; rfl
    · rcases List.mem_cons.1 hp' with rfl | hp'
      · simp only [Obj.ok];exact ⟨by simp [maxLen],.inr ⟨b,off,cap,cells,rfl,g1,by simp; omega,λc hc=>⟨by simp,(g3 c hc).2⟩,λi x hx=>by simp at hx⟩⟩
      · exact s.own.ok p (hp.mem_iff.1 (List.mem_cons_of_mem _ hp'))
theorem zzW {A B:Type} {K:Rep A} {R:Rep B} {x:Operand} {st kt et:TypeId} {ats:Array TypeId} {b:Nat} {es:List (A×B)} {n:Int} (kk:Nat) (hls:d=Oe) (hu:T.und st=Ob (.map kt et)) (hn:zu7 es=Ob n) (hats:ats=#[st]) (hk:L[kk]?=Ob (.map b,.mp K R es)) (hw:Want ops M Od o.guard) (ho:o.op=.call ⟨.builtin .len,#[x],ats⟩) (hd:o.dst=Ob t) (hx:Opd M x (.raw (.map b)))
 (r:zr C T d ops rest ((t,.val (zi .i64) n)::M) L Q):zr C T d ops (o::rest) M L Q:=by
 subst hats hls;unfold zu7 at hn;split at hn
 case isFalse=>cases hn
 rename_i hb;cases hn;intro fr h ⟨z,s⟩;have hob:=s.own.ok _ (List.mem_of_getElem? hk);simp only [Obj.ok] at hob;obtain ⟨b',l,e,g1,g2,g3⟩:=hob;cases e;have ha:aop T fr.op h o.op=Ob (.val (.int .i64 es.length) h):=by
  rw [ho];show abuiltin T .len #[st] [fr.op x] h=_;simp only [abuiltin,hx.raw s.fr];show zae h (alen T st (.map b) h)=_;simp only [alen,hu,g1,zae,Option.map,g2]
 simp only [wX,hw.ok s.fr,ha,hd,zbl];refine r _ _ ⟨z,s.set (by simp only [TE.ok]; exact zcc (by show (-9223372036854775808:Int)<=_; omega) (by show _<=(9223372036854775807:Int); omega))⟩
end
end Go.Ai.Sx