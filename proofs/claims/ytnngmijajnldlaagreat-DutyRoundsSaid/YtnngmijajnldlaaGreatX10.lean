/- Iterators that own a box: a function that makes one,and ranging over it. -/
import Derived.Test.YtnngmijajnldlaaGreatX7
import Derived.KernelRfl
set_option linter.unusedSimpArgs false
set_option linter.unusedVariables false
set_option linter.unusedSectionVars false
noncomputable section
open Option renaming some→Ob,none→Oe
open Bool renaming false→Oc,true→Od
open Option renaming bind->Zb,bind_some->Zs
namespace Go.Ai.Sx
theorem zoX {A B:Own} {ks:List Nat}:picks (A++B) (ks.map (·+A.length))=picks B ks:=by
 induction A with
 | nil=>simp
 | cons a A ih=>
  have e:ks.map (·+(a::A).length)=(ks.map (·+A.length)).map (·+1):=by rw [List.map_map]; rfl
  rw [e,List.cons_append,zfw,ih]
theorem zi5 {B:Own}:∀ {A:Own},picks (A++B) (List.range A.length)=A
 | []=>rfl
 | x::A=>by
  rw [List.length_cons,List.range_succ_eq_map,List.cons_append];simp only [picks,List.getElem?_cons_zero];have e:(List.range A.length).map Nat.succ=(List.range A.length).map (·+1):=rfl;rw [e,zfw,zi5]
def zBx (T:Tab) (g:FuncId) (as:List TE) (g2:FuncId) (es cs:List TE):Prop:=
 ∀ z h vs,z.Sub h->h.wm<=h.next->zB z as vs->zlc T g vs h λr h'=>∃ b us z',r=.ret (.func (.func g2) [] (.ptr b 0::us))/\Quiet h h'/\z.le z'/\z'.Sub h'/\(∀ b,b<h.next->z' b=z b)/\zB z' cs us/\zgT ⟨z,h,[]⟩ z' h' [(.ptr b 0,.box es)]
def zCe (C:Ctx) (T:Tab) (res:List ResultVar) (g2:FuncId) (es cs:List TE) (e:zaQ) (fr:zi) (h:za):Prop:=
 (e=.normal\/e=.ret)/\∃ b us z,aresults T res fr h=Ob [.func (.func g2) [] (.ptr b 0::us)]/\C.z0.le z/\z.Sub h/\(∀ b,b<C.h0.next->b∉C.B0->z b=C.z0 b)/\zB z cs us/\zgT C z h [(.ptr b 0,.box es)]/\Chg C h
section
variable {C:Ctx} {T:Tab} {d:Option (List Nat)} {ops rest:List Oper} {M:Env} {L:Own} {Q:zi->za->Prop} {P:zaQ->zi->za->Prop} {o:Oper} {t:Nat} {z:Store} {fr:zi} {h:za}
theorem zxb {e:zaQ} {g2:FuncId} {es cs:List TE} {t b:Nat} (k:Nat) (he:e=.normal\/e=.ret) (hl:look M t=Ob (.val (zqK g2 [] (.raw (.ptr b 0)::cs)) ())) (hk:L[k]?=Ob (.ptr b 0,.box es)):∀ fr h,St C M L fr h->zCe C T [.tmp t] g2 es cs e fr h:=by
 intro fr h ⟨z,s⟩;have h1:=s.fr _ _ hl;simp only [TE.ok] at h1;obtain ⟨us,vs,ev,h2,h3⟩:=znG h1;simp only [zB] at h2;subst h2;simp only [zB,TE.ok] at h3;obtain ⟨v,vs',rfl,rfl,h4⟩:=h3;refine ⟨he,b,vs',z,by simp only [aresults,aresult,ev],s.zle,s.sub,s.old,h4, ?_,s.chg⟩;have hp:picks L [k]=[(.ptr b 0,.box es)]:=by simp only [picks,hk]
 rw [← hp];exact ⟨λp hp=>s.own.ok p (zbw hp),λp hp=>s.own.out p (zbw hp),zcF s.own.nodup Ol⟩
theorem zxc {g g2:FuncId} {F:Func} {c:Code} {as es cs:List TE} (hF:T.funcs.get g=Ob F) (hb:F.body=Ob c) (hn:Nat.blt F.ntmps as.length=Oc) (run:∀ C,C.B0=[]->zeW C T c (entry 0 as) [] (zCe C T F.results.toList g2 es cs)):zBx T g as g2 es cs:=by
 intro z h vs hsub hwm hok;refine zmt hF hb (by rw [zbX hok]; exact hn) ?_;have s0:StZ ⟨z,h,[]⟩ (entry 0 as) [] z (zcK 0 vs .leaf) h:=
  { zle:=.refl _,sub:=hsub,old:=λ_ _ _=>rfl,fr:=zjM hok,own:=⟨λp hp=>(nomatch hp),λp hp=>(nomatch hp),List.nodup_nil⟩,chg:=⟨Nat.le_refl _,λ_ _ _=>rfl,λ_ m1 _ _=>m1,hwm⟩ }
 refine (run ⟨z,h,[]⟩ rfl _ _ ⟨z,s0⟩).mono λe fr h' ⟨he,b,us,z',h1,h3,h4,h5,h6,h7,h8⟩=>⟨he,_,h1,b,us,z',rfl, ?_,h3,h4,λb hb=>h5 b hb (λq=>nomatch q),h6,h7⟩;exact ⟨h8.next,λb hb=>h8.same b hb (λq=>nomatch q),h8.wm _ (Nat.min_le_left _ _) (Nat.min_le_right _ _) (λ_ q=>nomatch q),λ_=>h8.ok⟩
theorem zxd {c:Call} {x:Operand} {g g2:FuncId} {as es cs:List TE} (hf:zBx T g as g2 es cs) (hcst:T.consts.get g=Oe) (hw:Want ops M Od o.guard) (ho:o.op=.call c) (hd:o.dst=Ob t) (hc:c.callee=.value x) (hx:Opd M x (.raw (.func (.func g) [] []))) (hvs:Opds M c.args.toList as)
    (r:∀ b,zm C T d ops rest ((t,.val (zqK g2 [] (.raw (.ptr b 0)::cs)) ())::M) ((.ptr b 0,.box es)::L) Q):zm C T d ops (o::rest) M L Q:=by
  have te:∀ {z':Store} {b:Nat} {us:List zd},zB z' cs us->(TE.val (zqK g2 [] (.raw (.ptr b 0)::cs)) ()).ok z' (.func (.func g2) [] (.ptr b 0::us)):=λhok=>by
    simp only [TE.ok];exact ⟨⟨_,_,rfl,by simp only [zB],by simp only [zB,TE.ok]; exact ⟨_,_,rfl,rfl,hok⟩⟩,rfl⟩
  cases d with
  | none=>
    intro fr h ⟨z,s⟩;have ha:aop T fr.op h o.op=Ob (.call (.func (.func g) [] []) (c.args.toList.map fr.op)):=by rw [ho]; simp only [aop,zc1,hc,hx.raw s.fr]
    simp only [wX,hw.ok s.fr,ha,hd,zaU];refine zdf hcst ?_;rw [List.nil_append,List.append_nil];refine (hf z h _ s.sub s.chg.ok (hvs.ok s.fr)).mono λr' h' ⟨b,us,z',e1,q,hz,hs,hold,hok,hown⟩=>⟨_,e1, ?_⟩;have s':=s.after q hz hs hold hown;exact r b _ _ ⟨z',s'.set (te hok)⟩
  | some ol=>
    intro z fr h i done s hr hok hdn;have ha:aop T fr.op h o.op=Ob (.call (.func (.func g) [] []) (c.args.toList.map fr.op)):=by rw [ho]; simp only [aop,zc1,hc,hx.raw s.fr]
    have hi:ops[i]?=Ob o:=by have:=congrArg (λl=>l[0]?) hr; simpa using this
    have hlt:i<ops.length:=(List.getElem?_eq_some_iff.1 hi).1;have hr':ops.drop (i+1)=rest:=by have:=congrArg List.tail hr; simpa using this
    obtain ⟨c',fo,hoc,hcc,_⟩:=zc2 ha;have n1:zdl o.op=Oc:=by rw [hoc]; simp only [zdl,hcc]
    have n2:zkm o.op=Oc:=by rw [hoc]; simp only [zkm,hcc]
    have sl:StZ C M L z fr (lay h h.next):=s.low (Nat.le_refl _) (λm _ m2 _=>Nat.le_trans m2 s.chg.next);refine zkk (hw.ok s.fr) ha s.chg.ok (zfW hi hdn (zg2 hok i hlt) rfl ⟨λb hb=>(nomatch hb),λb hb=>(nomatch hb)⟩ (λq=>by rw [n1] at q; cases q) (λq=>by rw [n2] at q; cases q) (λ_=>rfl) (λt et y q=>by rw [hoc] at q; cases q) (λt a q=>by rw [hoc] at q; cases q) (λq=>by rw [hoc] at q; simp [zhR,hcc] at q)) ?_;refine zdf hcst ?_;rw [List.nil_append,List.append_nil];refine (hf z (lay h h.next) _ sl.sub (Nat.le_refl _) (hvs.ok s.fr)).mono λr' h' ⟨b,us,z',e1,q,hz,hs,hold,hok',hown⟩=>⟨_,e1,q, ?_⟩;have s':=sl.after q hz hs hold hown;have s'':StZ C M ([(.ptr b 0,.box es)]++L) z' fr (lay h' (min h.wm h'.wm)):=s'.low (by have:=s'.chg.ok; omega) (λm m1 m2 m3=>by have h1:=s.chg.wm m m1 m2 m3; have h2:=s'.chg.wm m m1 m2 m3; omega);have hn:=hdn.next (z':=z') (h':=lay h' (min h.wm h'.wm)) (v:=.func (.func g2) [] (.ptr b 0::us)) hi hz q.next [(i,⟨[],Od,[],Oc⟩)] (λp hp=>by
      rw [List.mem_singleton] at hp;subst hp;refine ⟨rfl,rfl,λ_=>rfl,λq=>(by rw [hoc] at q; cases q),λb hb=>(by simp at hb),λq=>?_⟩;unfold zeG at q;rw [n1,hoc] at q;simp [zoG,znx,hcc] at q) (λhal=>(ziV hal ha).elim) (λr q=>by rw [hoc] at q; cases q) (λp _ t a q=>by rw [hoc] at q; cases q) (λp _ q=>by rw [hoc] at q; simp [zhR,hcc] at q) (λp _ t a y q=>by rw [hoc] at q; cases q)
    rw [hd,zaU] at hn ⊢;exact r b z' _ _ (i+1) _ (s''.set (te hok')) hr' hok hn
theorem zss {g:FuncId} {as:List TE} {L0:Own} {rs:List RE} {F:List zd->zd×Obj} {X:List zd->Own} (h:zfL T g as L0 rs λγ=>F γ::X γ):zfL T g as L0 rs λγ=>[F γ]:=λz hp vs h1 h2 h3 h4=>
 (h z hp vs h1 h2 h3 h4).mono λ_ _ ⟨us,z',γ,q1,q2,q3,q4,q5,q6,q7,q8⟩=>⟨us,z',γ,q1,q2,q3,q4,q5,q6,q7,by
  have e:picks (owns rs us++F γ::X γ) (List.range (owns rs us++[F γ]).length)=owns rs us++[F γ]:=by
   rw [show owns rs us++F γ::X γ=(owns rs us++[F γ])++X γ by simp];exact zi5
  rw [← e];exact ⟨λp hp=>q8.ok p (zbw hp),λp hp=>q8.out p (zbw hp),zcF q8.nodup List.nodup_range⟩⟩
theorem zuO {σ τ X:Type} {ins:X->List TE} {step:σ->X->Option (σ⊕τ)} (I:σ⊕τ->List zd->Own) (E:τ->Option Nat) {f:Operand} {params:Array Nat} {assign body:Code} {g:FuncId} {ps cs:List TE} {s0:σ} {r:σ⊕τ} {Lr Lx:Own} (γ0:List zd) (ks xs js:List Nat)
    (hcst:T.consts.get g=Oe) (hf:Opd M f (.val (zqK g ps cs) ())) (h0:picks L ks=I (.inl s0) γ0) (hx:picks L xs=Lx) (hr:picks L js=Lr) (hn:(ks++(xs++js)).Nodup) (hp:∀ x,(ins x).length=params.size)
    (hit:∀ (yv:zd) (K:σ⊕τ->List zd->Obj),zr9 T yv ins step K->∀ γ,zfL T g (ps++[.raw yv]++cs) ((yv,K (.inl s0) γ)::Lx) [] λγ'=>[(yv,K r γ')])
    (hb:∀ s γ x r,step s x=Ob r->∀ C,zeW C T assign (zuE params.toList (ins x) M) (I (.inl s) γ) (zBo C T body I E r))
    (out:∀ γ fr h,St C M (I r γ++Lr) fr h->P (znI E r) fr h):zeW C T (.rangeFunc f params assign body) M L P:=by
  subst hr hx;intro fr h ⟨z,s⟩;obtain ⟨us0,vs0,ev,hps,hcs⟩:=znG (hf.val s.fr);have hpk:StZ C M (I (.inl s0) γ0++(picks L xs++picks L js)) z fr h:=by
    have e:picks L (ks++(xs++js))=I (.inl s0) γ0++(picks L xs++picks L js):=by rw [zgg,zgg,h0]
    rw [← e];exact { s with own:=⟨λp hp=>s.own.ok p (zbw hp),λp hp=>s.own.out p (zbw hp),zcF s.own.nodup hn⟩ }
  generalize picks L js=Lr at hpk out;generalize picks L xs=Lx at hpk hit
  let B:zh7:={ state:=.ready,pending:=Oe,fr:=fr,params:=params.toList,assign:=assign,body:=body }
  have cb:zr9 T (.func (.yield h.next) [] []) ins step (zgS h.next B M I E):=zpG (by simpa using hp) hb;have s2:StZ C M ((.func (.yield h.next) [] [],.cb [h.next] λ_ h'=>h'.get h.next=Ob (.loop B))::(I (.inl s0) γ0++(Lx++Lr))) z fr (h.push (.loop B)):=
    hpk.pushOwn (.loop B) rfl ⟨by show (h.push (.loop B)).get h.next=_; rw [za.get_push,if_pos rfl],λ_ _ h1 h1' _ hb q=>by
      have q:h1.get h.next=Ob (.loop B):=q;show h1'.get h.next=_;rw [hb _ (List.mem_singleton.2 rfl)]; exact q⟩
  have s3:StZ C M ((.func (.yield h.next) [] [],zgS h.next B M I E (.inl s0) γ0)::(Lx++Lr)) z fr (h.push (.loop B)):=by
    refine s2.repack (List.Perm.of_eq ?_) λp hp'=>?_
    · rw [zR,zR];show (h.next::blks (I (.inl s0) γ0))++blks (Lx++Lr)=[h.next]++blks (I (.inl s0) γ0++(Lx++Lr));simp [blks]
    · rcases List.mem_cons.1 hp' with rfl | hp'
      · exact zky (λp hp=>s2.own.ok p (List.mem_cons_of_mem _ (List.mem_append_left _ hp))) (by rw [za.get_push,if_pos rfl]; rfl) s.fr
      · exact s2.own.ok p (List.mem_cons_of_mem _ (List.mem_append_right _ hp'))
  let yo:zd×Obj:=(.func (.yield h.next) [] [],zgS h.next B M I E (.inl s0) γ0)
  have hks:picks ((yo::Lx)++Lr) (List.range (yo::Lx).length)=yo::Lx:=zi5;have hjs:picks ((yo::Lx)++Lr) ((List.range Lr.length).map (·+(yo::Lx).length))=Lr:=by rw [zoX,zkz]
  have hnd:(List.range (yo::Lx).length++(List.range Lr.length).map (·+(yo::Lx).length)).Nodup:=by
    refine List.nodup_append.2 ⟨List.nodup_range,List.Pairwise.map _ (λa b q e=>q J) List.nodup_range,λa ha b hb e=>?_⟩;obtain ⟨i,_,q⟩:=List.mem_map.1 hb;have:=List.mem_range.1 ha;omega
  have s3:StZ C M ((yo::Lx)++Lr) z fr (h.push (.loop B)):=s3;have hL:=s3.lent (ks:=List.range (yo::Lx).length) List.nodup_range;rw [hks] at hL;have hcall:=hit _ _ cb γ0 z (h.push (.loop B)) (us0++[.func (.yield h.next) [] []]++vs0) s3.sub s3.chg.ok (zcu (zcu hps (by simp [zB,TE.ok])) hcs) hL;have hcall:=zdf (a:=us0) (b:=vs0) hcst hcall;obtain ⟨n,r',h2,hrun,us,z',γ,e1,hl,q,hz,hs,hold,hok,hown⟩:=hcall;have hus:us=[]:=List.length_eq_zero_iff.1 hl;subst hus;have s4:=s3.afterM (ks:=List.range (yo::Lx).length) (js:=(List.range Lr.length).map (·+(yo::Lx).length)) hnd (by rw [hks]; exact q) hz hs (by rw [hks]; exact hold) (by rw [hks]; exact hown);rw [hjs] at s4;have s4:StZ C M ((.func (.yield h.next) [] [],zgS h.next B M I E r γ)::Lr) z' fr h2:=s4;obtain ⟨⟨o1,o2,_⟩,_⟩:=s4.own.ok _ (List.mem_cons_self ..);obtain ⟨w1,w2,w3⟩:=s4.own.out _ (List.mem_cons_self ..) h.next (List.mem_cons_self ..);have hnd4:(h.next::(blks (I r γ)++blks Lr)).Nodup:=by
    have:=s4.own.nodup;rw [zR] at this;exact this
  have hblk:blks (I r γ++Lr)=blks (I r γ)++blks Lr:=by simp [blks]
  have s5:StZ C M (I r γ++Lr) z' fr h2:=by
    refine { s4 with own:=⟨λp hp'=>?_,λp hp' b hb'=>?_,by rw [hblk]; exact (List.nodup_cons.1 hnd4).2⟩ }
    · rcases List.mem_append.1 hp' with hp' | hp'
      · exact o1 p hp'
      · exact s4.own.ok p (List.mem_cons_of_mem _ hp')
    · rcases List.mem_append.1 hp' with hp' | hp'
      · exact s4.own.out _ (List.mem_cons_self ..) b (List.mem_cons_of_mem _ (zbm.2 ⟨p,hp',hb'⟩))
      · exact s4.own.out p (List.mem_cons_of_mem _ hp') b hb'
  have s6:∀ x,StZ C M (I r γ++Lr) z' fr (h2.set h.next x):=λx=>s5.wild w1 w2 w3 (by rw [hblk]; exact (List.nodup_cons.1 hnd4).1) x;have hrun':acall T (aexec T n) (fr.op f) [.func (.yield h.next) [] []] (h.push (.loop { state:=.ready,pending:=Oe,fr:=fr,params:=params.toList,assign:=assign,body:=body }))=Ob (r',h2):=by rw [ev]; exact hrun
  subst e1;refine ⟨n+1,znI E r,fr,h2.set h.next (.loop { ztP B E r with state:=.exhausted }), ?_,out γ fr _ ⟨z',s6 _⟩⟩;simp only [aexec,hrun',o2];cases r with
  | inl s'=>rfl
  | inr t'=>
    simp only [ztP,znI];cases hE:E t'<;>rfl
end
section
variable {C:Ctx} {T:Tab} {d:Option (List Nat)} {ops rest:List Oper} {M:Env} {L:Own} {Q:zi->za->Prop} {o:Oper} {t:Nat} {z:Store} {fr:zi} {h:za}
theorem zi6 {A:Type} {R:Rep A} {xs:List A} {b n:Nat} (k:Nat) (ts:List Nat) (hp:0<R.sz) (hn:0<n) {L':Own} (hk:L[k]?=Ob (.slice b 0 n R.sz (Ob n),.row R xs)) (hL:zcR L k=Ob L') (hts:zir M (.ptr b 0) ts):∀ z fr h,StZ C M L z fr h->∃ z',z.le z'/\StZ C (zf2 ts (.val (zL (zjJ n R)) xs) M) L' z' fr h:=by
 intro z fr h s;obtain ⟨z',hz,s',hr⟩:=s.freeze hk hL;refine ⟨z',hz,{ s' with fr:=zeI ?_ hts s'.fr }⟩;rcases hr.2 with ⟨q,_⟩ | ⟨b',off,cap,q,_⟩ | ⟨b',off,cap,cells,ro,q,h2,h3,h4,h5⟩
 . cases q
 . cases q; omega
 . cases q;simp only [TE.ok];refine ⟨⟨_,rfl,b,0,cells,ro,rfl,h2,h3, ?_⟩,rfl⟩;have hl:((cells.drop 0).take (zjJ xs.length R).sz).length=xs.length*R.sz:=by
    show ((cells.drop 0).take (xs.length*R.sz)).length=_;simp; omega
   have hpp:∀ i x,xs[i]?=Ob x->R.rel z' ((((cells.drop 0).take (xs.length*R.sz)).drop (i*R.sz)).take R.sz) x:=λi x hi=>by
    have h6:=h5 i x hi;have hlt:=(List.getElem?_eq_some_iff.1 hi).1;rw [List.drop_zero,List.drop_take,List.take_take,Nat.min_eq_left]
    . rwa [Nat.zero_add] at h6
    . have:=Nat.mul_le_mul_right R.sz (show i+1<=xs.length by omega);rw [Nat.add_mul,Nat.one_mul] at this;omega
   exact ⟨rfl,hl,ziY hp hl hpp,hpp⟩
theorem zcX {A:Type} {R:Rep A} {x y:Operand} {xs:List A} {at_ et:TypeId} {n:Nat} {kk:IntKind} {i:Int} {a:A} (har:Ar1 T at_ et n R) (hi:idx xs i=Ob a) (hw:Want ops M Od o.guard) (ho:o.op=.indexAddr at_ x y) (hd:o.dst=Ob t)
 (hx:Opd M x (.val (zL (zjJ n R)) xs)) (hy:Opd M y (.val (zh kk) i)) (r:zm C T d ops rest ((t,.val (zL R) a)::M) L Q):zm C T d ops (o::rest) M L Q:=by
 refine zau (by rw [ho]; rfl) hw hd (λz fr h s=>?_) r;obtain ⟨h0,h1,h2,h3⟩:=zdi hi;obtain ⟨b,off,cells,ro,e1,e2,e3,e4⟩:=zik (hx.val s.fr);obtain ⟨q1,q2,q3,q4⟩:=e4;have hlt:i.toNat<n:=J
 have hle:i.toNat*R.sz+R.sz<=n*R.sz:=by
  have:=Nat.mul_le_mul_right R.sz (show i.toNat+1<=n by omega);rwa [Nat.add_mul,Nat.one_mul] at this
 have e3:off+n*R.sz<=cells.length:=e3;refine ⟨.ptr b (off+i.toNat*R.sz), ?_, ?_⟩
 . rw [ho];simp only [aop,hy.int s.fr,e1,zdy,har.und,har.sz];rw [if_pos (by exact ⟨h0,by omega⟩)];rfl
 . simp only [TE.ok];refine ⟨⟨_,rfl,b,_,cells,ro,rfl,e2,by omega, ?_⟩,rfl⟩;have:=q4 _ a h3;have hq:(((cells.drop off).take (n*R.sz)).drop (i.toNat*R.sz)).take R.sz=(cells.drop (off+i.toNat*R.sz)).take R.sz:=by
    rw [List.drop_take,List.take_take,List.drop_drop,Nat.min_eq_left J]
   exact hq▸this
end
section
variable {C:Ctx} {T:Tab} {d:Option (List Nat)} {ops rest:List Oper} {M:Env} {L:Own} {Q:zi->za->Prop} {o:Oper} {t:Nat} {z:Store} {fr:zi} {h:za}
end
theorem zzH {A:Type} {R:Rep A} {z:Store} {c:zd} {x:A} (h:R.rel z [c] x) (h1:R.sz=1) (ho:c.one=Od):(zjJ 2 R).rel z [c,c] [x,x]:=by
 refine ⟨rfl,by rw [h1]; rfl,by simp [ho],λi y hi=>?_⟩;rw [h1,Nat.mul_one]
 match i,hi with
 | 0,hi=>cases hi; exact h
 | 1,hi=>cases hi; exact h
theorem zi7 {A:Type} {R:Rep A} {a b:A} (h:R.agg=Oc):Cells (zjJ 2 R) [a,b] [.val R a,.val R b]:=by
 have hs:=R.one h;intro z cs;have c1:=zz (R:=R) (a:=a) h z;have c2:=zz (R:=R) (a:=b) h z;constructor
 . rintro ⟨_,h2,_,h4⟩
   rw [hs] at h2
   match cs,h2 with
   | [u,v],_=>
    have e1:=h4 0 a rfl;have e2:=h4 1 b rfl;rw [hs] at e1 e2;have k1:=(c1 [u]).1 e1;have k2:=(c2 [v]).1 e2;exact zes.2 ⟨[u],[v],rfl,k1,k2⟩
 . intro hk;obtain ⟨x1,x2,rfl,k1,k2⟩:=zes.1 (show zB z ([.val R a]++[.val R b]) cs from hk);have r1:=(c1 _).2 k1;have r2:=(c2 _).2 k2;have l1:=R.len _ _ _ r1;have l2:=R.len _ _ _ r2;rw [hs] at l1 l2
   match x1,l1,x2,l2 with
   | [u],_,[v],_=>
    refine ⟨rfl,by rw [hs]; rfl, ?_,λi y hi=>?_⟩
    . have o1:=R.ones _ _ _ r1;have o2:=R.ones _ _ _ r2;simp only [List.all_cons,List.all_nil,Bool.and_true] at o1 o2;simp [o1,o2]
    . rw [hs,Nat.mul_one]
      match i,hi with
      | 0,hi=>cases hi; exact r1
      | 1,hi=>cases hi; exact r2
theorem ix2 {i:Int} {u:Unit} (h:idx [(),()] i=Ob u):i=0\/i=1:=by
 have:=zdi h;simp only [List.length_cons,List.length_nil] at this;omega
theorem zv9 {i:Int} {u:Unit} (h:idx [(),()] i=Ob u) {q n:Nat} (hq:q+1<n):q+i.toNat<n:=by
 have:=ix2 h;omega
section
variable {C:Ctx} {T:Tab} {d:Option (List Nat)} {ops rest:List Oper} {M:Env} {L:Own} {Q:zi->za->Prop} {o:Oper} {t:Nat} {z:Store} {fr:zi} {h:za}
theorem zst {A:Type} {R:Rep A} {x y:Operand} {at_ et:TypeId} {kk:IntKind} {i:Int} {u:Unit} {b off:Nat} (har:Ar1 T at_ et 2 R) (hs:R.sz=1) (hi:idx [(),()] i=Ob u) (hw:Want ops M Od o.guard) (ho:o.op=.indexAddr at_ x y) (hd:o.dst=Ob t)
 (hx:Opd M x (.raw (.ptr b off))) (hy:Opd M y (.val (zh kk) i)) (r:zm C T d ops rest ((t,.raw (.ptr b (off+i.toNat)))::M) L Q):zm C T d ops (o::rest) M L Q:=by
 refine zau (by rw [ho]; rfl) hw hd (λz fr h s=>?_) r;have h0:=ix2 hi;refine ⟨.ptr b (off+i.toNat), ?_,rfl⟩;rw [ho];simp only [aop,hy.int s.fr,hx.raw s.fr,zdy,har.und,har.sz];rw [if_pos (by exact ⟨by omega,by omega⟩),hs,Nat.mul_one];rfl
theorem znS {A:Type} {R:Rep A} {a:A} {et:TypeId} {x y:Operand} {b q:Nat} {es es':List TE} (k:Nat) (hsz:szT T et=Ob 1) (hk:L[k]?=Ob (.ptr b 0,.box es)) (hq:q<es.length) (he:es.set q (.val R a)=es') (hw:Want ops M Od o.guard) (ho:o.op=.store et x y) (hd:o.dst=Oe) (hx:Opd M x (.raw (.ptr b q))) (hy:Opd M y (.val R a)) (hR:R.agg=Oc)
 {L':Own} (hL:zfE L k (.ptr b 0,.box es')=Ob L') (r:zm C T d ops rest M L' Q):zm C T d ops (o::rest) M L Q:=
 zjL k hsz hk hq hw ho hd hx hy hR (by rw [he]; exact hL) r
end
class iU (T:Tab) (t:TypeId) {A:outParam Type} (R:outParam (Rep A)):Prop where u:Und T t R
class iS (T:Tab) (st:TypeId) {A:outParam Type} (R:outParam (Rep A)) (et:outParam TypeId):Prop where s:Sl T st et R
class iF (T:Tab) (s i:Nat) {A B:outParam Type} (R:outParam (Rep A)) (S:outParam (Rep B)) (ft off:outParam Nat) (g:outParam (A->B)) (w:outParam (A->B->A)):Prop where
 f:Fld T s i ft off S.sz
 k:FOk R off S g w
 p:0<S.sz
class iY (T:Tab) (et:TypeId) {A:outParam Type} (R:outParam (Rep A)) (bytes:outParam Nat):Prop where y:Ty T et R bytes
class iZ (T:Tab) (et:TypeId) {A:outParam Type} (R:outParam (Rep A)) (x:outParam A):Prop where z:Zr T et R x
class iB (T:Tab) (t:TypeId) {A:outParam Type} (R:outParam (Rep A)) (zc:outParam (List zd)) (places:outParam (List (Nat×Nat))):Prop where
 b:Stt T t zc places
 a:R.agg=Od
class iK (T:Tab) (t:TypeId) (k:outParam TypeDesc):Prop where k:T.und t=Ob k
class iA (T:Tab) (t:TypeId) {A:outParam Type} (R:outParam (Rep A)) (et n:outParam Nat):Prop where a:Ar1 T t et n R
class iE (T:Tab) (t:TypeId) {A:outParam Type} (R:outParam (Rep A)) (q:outParam (A->A->Bool)):Prop where
 e:SEq T t R q
 a:R.agg=Od
class FI {α:Type} (T:Tab) (g:FuncId) (m:Option α) (as:outParam (List TE)) (rs:outParam (α->List RE)):Prop where ok:∀ o,m=Ob o->Fun T g as (rs o)
theorem fi {α:Type} {T:Tab} {g:FuncId} {m:Option α} {as:List TE} {rs:α->List RE} [h:FI T g m as rs] {o:α} (e:m=Ob o):Fun T g as (rs o):=h.ok o e
universe u
section
variable {A:Type u} {l:List A} {a b c e f g h i j:A}
theorem k0:(a::l)[0]?=Ob a:=rfl
theorem k1:(a::b::l)[1]?=Ob b:=rfl
theorem k2:(a::b::c::l)[2]?=Ob c:=rfl
theorem k3:(a::b::c::e::l)[3]?=Ob e:=rfl
theorem k4:(a::b::c::e::f::l)[4]?=Ob f:=rfl
theorem k5:(a::b::c::e::f::g::l)[5]?=Ob g:=rfl
theorem k6:(a::b::c::e::f::g::h::l)[6]?=Ob h:=rfl
theorem k7:(a::b::c::e::f::g::h::i::l)[7]?=Ob i:=rfl
theorem k8:(a::b::c::e::f::g::h::i::j::l)[8]?=Ob j:=rfl
end
section
variable {C:Ctx} {T:Tab} {d:Option (List Nat)} {ops rest:List Oper} {M:Env} {L:Own} {Q:zi->za->Prop} {P:zaQ->zi->za->Prop} {e e':TE} {t i j:Nat} {x y z:Operand} {ty u u' et st:TypeId} {p:String} {af:Array Edge} {gd:Option (Nat×Bool)} {A B:Type} {R:Rep A} {S:Rep B} {k k':IntKind} {m n i':Int} {v:zd} {q:Bool} {a:A} {xs ys:List A} {c:Call}
abbrev vI (n:Int):TE:=.val (zh .i64) n
abbrev vB (b:Bool):TE:=.val zw b
theorem c1 {b:B} {fs:List TE} (h1:R.agg=Oc) (h2:Cells S b fs):Cells (zC R S) (a,b) (.val R a::fs):=zt (zz h1) h2 rfl
theorem c3 {A B:Type} {R:Rep A} {S:Rep B} {x y:A} {b:B} {fs:List TE} (h:R.agg=Oc) (h2:Cells S b fs):Cells (zC (zjJ 2 R) S) ([x,y],b) (.val R x::.val R y::fs):=zt (zi7 h) h2 rfl
theorem c2 {b:B} {es fs:List TE} (h1:Cells R a es) (h2:Cells S b fs):Cells (zC R S) (a,b) (es++fs):=zt h1 h2 rfl
theorem gl1:(Od==Od)=Od:=rfl
theorem gl0:(Oc==Oc)=Od:=rfl
theorem gm1:(Od==Oc)=Oc:=rfl
theorem gm0:(Oc==Od)=Oc:=rfl
theorem EQ {p:Prop} (h:p:=by first | with_reducible assumption | assumption):p:=h
theorem EW {p:Prop} (h:p:=by first | exact .n rfl | (apply Want.g; rfl; rfl; first | (apply gt1; with_reducible assumption) | (apply gf0; with_reducible assumption) | with_reducible exact gl1 | with_reducible exact gl0)):p:=h
theorem EN {p:Prop} (h:p:=by first | exact .u rfl rfl rfl | (apply Want.g; rfl; rfl; first | (apply gf1; with_reducible assumption) | (apply gt0; with_reducible assumption) | with_reducible exact gm1 | with_reducible exact gm0)):p:=h
theorem EO {p:Prop} (h:p:=by first | exact .t rfl | exact .i Oa Oa | exact .b | exact .f | exact .nil):p:=h
theorem EM {p:Prop} (h:p:=by first | exact .t rfl | exact .i Oa Oa | exact .b | exact .f):p:=h
theorem EL {p:Prop} (h:p:=by first | exact k0 | exact k1 | exact k2 | exact k3 | exact k4 | exact k5 | exact k6 | exact k7 | exact k8):p:=h
theorem EC {p:Prop} (h:p:=by
 repeat first | exact zb7 | exact zz rfl | (apply c1; rfl) | (apply c3; rfl) | apply c2
 all_goals fail):p:=h
theorem EZ {p:Prop} (h:p:=by
 repeat first | exact zint | exact zbool | exact znil | exact zunit | exact zsl | exact znilM | exact ⟨rfl,by decide,by decide⟩ | apply zpair | rfl
 all_goals fail):p:=h
theorem EB {p:Prop} (h:p:=by
 repeat first | exact .n rfl | (apply Bld.p; exact EO; rfl) | (apply Bld.z; intro _; exact EZ)
 all_goals fail):p:=h
theorem ES {p:Prop} (h:p:=by first | exact .n | exact .s EO):p:=h
theorem ER {p:Prop} (h:p:=by intro _ h; cases h<;>rfl):p:=h
theorem EA {p:Prop} (h:p:=by
 repeat first | exact .n | (apply Opds.c; exact EO) | (apply Elts.c; exact EO)
 all_goals fail):p:=h
theorem EH {p:Prop} (h:p:=by first | with_reducible assumption | with_reducible rfl):p:=h
theorem wmv (h:Opd M x e) (w:Want ops M Od gd) (r:zm C T d ops rest ((t,e)::M) L Q):zm C T d ops (⟨Ob t,.move x,ty,p,af,gd⟩::rest) M L Q:=zze w rfl rfl h r
theorem wsg (h:Opd M x e) (w:Want ops M Od gd) (r:zm C T d ops rest ((t,e)::M) L Q):zm C T d ops (⟨Ob t,.assign x,ty,p,af,gd⟩::rest) M L Q:=zeq w rfl rfl h r
theorem wsk {o:Op} (w:Want ops M Oc (Ob (j,q))) (r:zm C T d ops rest ((t,.raw unit)::M) L Q):zm C T d ops (⟨Ob t,o,ty,p,af,Ob (j,q)⟩::rest) M L Q:=zzc w rfl r
theorem wld [hu:iU T et R] (h:Opd M x (.val (zL R) a)) (w:Want ops M Od gd) (r:zm C T d ops rest ((t,.val R a)::M) L Q):zm C T d ops (⟨Ob t,.load et x,ty,p,af,gd⟩::rest) M L Q:=zzh hu.u w rfl rfl h r
theorem wfa {s ft off:Nat} {g:A->B} {f:A->B->A} [hf:iF T s i R S ft off g f] (h:Opd M x (.val (zL R) a)) (w:Want ops M Od gd) (r:zm C T d ops rest ((t,.val (zL S) (g a))::M) L Q):zm C T d ops (⟨Ob t,.fieldAddr s x i,ty,p,af,gd⟩::rest) M L Q:=zCn hf.f hf.k hf.p w rfl rfl h r
theorem wfe {s ft off j' o0:Nat} {g:A->B} {f:A->B->A} [hf:iF T s i R S ft off g f] (h:Opd M x (.elt v j' o0)) (w:Want ops M Od gd) (r:zm C T d ops rest ((t,.elt v j' (o0+off))::M) L Q):zm C T d ops (⟨Ob t,.fieldAddr s x i,ty,p,af,gd⟩::rest) M L Q:=zwQ hf.f hf.p w rfl rfl h r
theorem wfr {s ft off b o0:Nat} {g:A->B} {f:A->B->A} [hf:iF T s i R S ft off g f] (h:Opd M x (.raw (.ptr b o0))) (w:Want ops M Od gd) (r:zm C T d ops rest ((t,.raw (.ptr b (o0+off)))::M) L Q):zm C T d ops (⟨Ob t,.fieldAddr s x i,ty,p,af,gd⟩::rest) M L Q:=zwR hf.f hf.p w rfl rfl h r
theorem wfd {s ft off:Nat} {g:A->B} {f:A->B->A} [hf:iF T s i R S ft off g f] [hu:iU T ft S] (h:Opd M x (.val R a)) (w:Want ops M Od gd) (hR:R.agg=Od) (r:zm C T d ops rest ((t,.val S (g a))::M) L Q):zm C T d ops (⟨Ob t,.field s x i,ty,p,af,gd⟩::rest) M L Q:=zwT hf.f hu.u hR hf.k w rfl rfl h r
theorem war {op:BinOp} (hx:Opd M x (.val (zh k) m)) (hy:Opd M y (.val (zh k) n)) (ha:Ar k m n op i') (w:Want ops M Od gd) (r:zm C T d ops rest ((t,.val (zh k) i')::M) L Q):zm C T d ops (⟨Ob t,.binOp op u x y u',ty,p,af,gd⟩::rest) M L Q:=zB8 w rfl rfl hx hy ha r
theorem wdv (hx:Opd M x (.val (zh k) m)) (hy:Opd M y (.val (zh k) n)) (ha:zf6 k m n=Ob i') (w:Want ops M Od gd) (r:zm C T d ops rest ((t,.val (zh k) i')::M) L Q):zm C T d ops (⟨Ob t,.binOp .quo u x y u',ty,p,af,gd⟩::rest) M L Q:=zB8 w rfl rfl hx hy (zux ha) r
theorem wrm (hx:Opd M x (.val (zh k) m)) (hy:Opd M y (.val (zh k) n)) (ha:zri m n=Ob i') (w:Want ops M Od gd) (r:zm C T d ops rest ((t,.val (zh k) i')::M) L Q):zm C T d ops (⟨Ob t,.binOp .rem u x y u',ty,p,af,gd⟩::rest) M L Q:=zzr ha w rfl rfl hx hy r
theorem wsl (hx:Opd M x (.val (zh k) m)) (hy:Opd M y (.val (zh k') n)) (ha:zyU k m n=Ob i') (w:Want ops M Od gd) (r:zm C T d ops rest ((t,.val (zh k) i')::M) L Q):zm C T d ops (⟨Ob t,.binOp .shl u x y u',ty,p,af,gd⟩::rest) M L Q:=zzs ha w rfl rfl hx hy r
theorem wsr (hx:Opd M x (.val (zh k) m)) (hy:Opd M y (.val (zh k') n)) (ha:zhT k m n=Ob i') (w:Want ops M Od gd) (r:zm C T d ops rest ((t,.val (zh k) i')::M) L Q):zm C T d ops (⟨Ob t,.binOp .shr u x y u',ty,p,af,gd⟩::rest) M L Q:=zzt ha w rfl rfl hx hy r
theorem wcm {op:BinOp} (hx:Opd M x (.val (zh k) m)) (hy:Opd M y (.val (zh k) n)) (ha:Cmp m n op q) (w:Want ops M Od gd) (r:zm C T d ops rest ((t,.val zw q)::M) L Q):zm C T d ops (⟨Ob t,.binOp op u x y u',ty,p,af,gd⟩::rest) M L Q:=zAY w rfl rfl hx hy ha r
theorem wse {a':A} {f:A->A->Bool} [hs:iE T u R f] (hx:Opd M x (.val R a)) (hy:Opd M y (.val R a')) (w:Want ops M Od gd) (r:zm C T d ops rest ((t,.val zw (f a a'))::M) L Q):zm C T d ops (⟨Ob t,.binOp .eql u x y u',ty,p,af,gd⟩::rest) M L Q:=zBj hs.e hs.a w rfl rfl hx hy r
theorem wno (hx:Opd M x (.val zw q)) (w:Want ops M Od gd) (r:zm C T d ops rest ((t,.val zw (!q))::M) L Q):zm C T d ops (⟨Ob t,.unOp .not u x,ty,p,af,gd⟩::rest) M L Q:=zA2 w rfl rfl hx r
theorem wng (hx:Opd M x (.val (zh k) m)) (w:Want ops M Od gd) (r:zm C T d ops rest ((t,.val (zh k) (k.wrap (0-m)))::M) L Q):zm C T d ops (⟨Ob t,.unOp .neg u x,ty,p,af,gd⟩::rest) M L Q:=zA3 w rfl rfl hx r
theorem wcv {ds:TypeDesc} [h1:iK T u ds] [h2:iK T u' (.int k')] (hx:Opd M x (.val (zh k) m)) (w:Want ops M Od gd) (r:zm C T d ops rest ((t,.val (zh k') (k'.wrap m))::M) L Q):zm C T d ops (⟨Ob t,.convert u u' x,ty,p,af,gd⟩::rest) M L Q:=zzf (by rw [h1.k]; rfl) h2.k w rfl rfl hx r
theorem wp1 (hc:Opd M z (.val zw q)) (hb:q=Od) (hx:Opd M x e) (w:Want ops M Od gd) (r:zm C T d ops rest ((t,e)::M) L Q):zm C T d ops (⟨Ob t,.pick z x y,ty,p,af,gd⟩::rest) M L Q:=zBe hb w rfl rfl hc hx r
theorem wp0 (hc:Opd M z (.val zw q)) (hb:q=Oc) (hy:Opd M y e) (w:Want ops M Od gd) (r:zm C T d ops rest ((t,e)::M) L Q):zm C T d ops (⟨Ob t,.pick z x y,ty,p,af,gd⟩::rest) M L Q:=zBf hb w rfl rfl hc hy r
theorem wln [hs:iS T st R et] (hx:Opd M x (.val (zb R) xs)) (w:Want ops M Od gd) (r:zm C T d ops rest ((t,.val (zh .i64) (zq xs))::M) L Q):zm C T d ops (⟨Ob t,.call ⟨.builtin .len,#[x],#[st]⟩,ty,p,af,gd⟩::rest) M L Q:=zA4 hs.s w rfl rfl rfl rfl rfl hx r
theorem wlo {H:Nat} [hs:iS T st R et] (hx:Opd M x (.raw v)) (hk:L[H]?=Ob (v,.row R xs)) (w:Want ops M Od gd) (r:zm C T d ops rest ((t,.val (zh .i64) (zq xs))::M) L Q):zm C T d ops (⟨Ob t,.call ⟨.builtin .len,#[x],#[st]⟩,ty,p,af,gd⟩::rest) M L Q:=zzg H hs.s w rfl rfl rfl rfl rfl hx hk r
theorem wmx {ats:Array TypeId} (hx:Opd M x (.val (zh k) m)) (hy:Opd M y (.val (zh k) n)) (w:Want ops M Od gd) (r:zm C T d ops rest ((t,.val (zh k) (max m n))::M) L Q):zm C T d ops (⟨Ob t,.call ⟨.builtin .max,#[x,y],ats⟩,ty,p,af,gd⟩::rest) M L Q:=zA5 w rfl rfl rfl rfl hx hy r
theorem wmn {ats:Array TypeId} (hx:Opd M x (.val (zh k) m)) (hy:Opd M y (.val (zh k) n)) (w:Want ops M Od gd) (r:zm C T d ops rest ((t,.val (zh k) (min m n))::M) L Q):zm C T d ops (⟨Ob t,.call ⟨.builtin .min,#[x,y],ats⟩,ty,p,af,gd⟩::rest) M L Q:=zA6 w rfl rfl rfl rfl hx hy r
theorem wix [hs:iS T st R et] (hx:Opd M x (.val (zb R) xs)) (hy:Opd M y (.val (zh k) m)) (hi:idx xs m=Ob a) (w:Want ops M Od gd) (r:zm C T d ops rest ((t,.val (zL R) a)::M) L Q):zm C T d ops (⟨Ob t,.indexAddr st x y,ty,p,af,gd⟩::rest) M L Q:=zA7 hs.s hi w rfl rfl hx hy r
theorem wio {H:Nat} [hs:iS T st R et] (hx:Opd M x (.raw v)) (hk:L[H]?=Ob (v,.row R xs)) (hy:Opd M y (.val (zh k) m)) (hi:idx xs m=Ob a) (w:Want ops M Od gd) (r:zm C T d ops rest ((t,.elt v m.toNat 0)::M) L Q):zm C T d ops (⟨Ob t,.indexAddr st x y,ty,p,af,gd⟩::rest) M L Q:=zvZ H hs.s hi w rfl rfl hx hk hy r
theorem wia {H n' b:Nat} [hs:iA T st R et n'] (hx:Opd M x (.raw (.ptr b 0))) (hk:L[H]?=Ob (.slice b 0 n' R.sz (Ob n'),.row R xs)) (hy:Opd M y (.val (zh k) m)) (hi:idx xs m=Ob a) (w:Want ops M Od gd) (r:zm C T d ops rest ((t,.elt (.slice b 0 n' R.sz (Ob n')) m.toNat 0)::M) L Q):zm C T d ops (⟨Ob t,.indexAddr st x y,ty,p,af,gd⟩::rest) M L Q:=zzw H hs.a hk hi w rfl rfl hx hy r
theorem win {n':Nat} [hs:iA T st R et n'] (hx:Opd M x (.val (zjJ n' R) xs)) (hy:Opd M y (.val (zh k) m)) (hi:idx xs m=Ob a) (w:Want ops M Od gd) (r:zm C T d ops rest ((t,.val R a)::M) L Q):zm C T d ops (⟨Ob t,.index st x y,ty,p,af,gd⟩::rest) M L Q:=zw1 hs.a hi w rfl rfl hx hy r
theorem wle {H i0 off:Nat} {m0:Int} {g:A->B} {f:A->B->A} [hu:iU T et S] (hx:Opd M x (.elt v i0 off)) (hk:L[H]?=Ob (v,.row R xs)) (hf:FOk R off S g f) (e0:m0.toNat=i0) (hi:idx xs m0=Ob a) (w:Want ops M Od gd) (hl:Listed d ops rest) (r:zm C T d ops rest ((t,.val S (g a))::M) L Q):zm C T d ops (⟨Ob t,.load et x,ty,p,af,gd⟩::rest) M L Q:=ziX H hl hu.u hf (e0▸(zdi hi).2.2.2) w rfl rfl hx hk r
theorem wlb {H b b':Nat} {es:List TE} [hu:iU T et R] (hx:Opd M x (.raw (.ptr b b'))) (hk:L[H]?=Ob (.ptr b 0,.box es)) (he:es[b']?=Ob e) (hg:R.agg=Oc) (w:Want ops M Od gd) (hl:Listed d ops rest) (r:zm C T d ops rest ((t,e)::M) L Q):zm C T d ops (⟨Ob t,.load et x,ty,p,af,gd⟩::rest) M L Q:=zwU H hl (hg▸hu.u.agg) he w rfl rfl hx hk r
theorem wnk (hx:Opd M x (.val (zL R) a)) (w:Want ops M Od gd) (r:zm C T d ops rest ((t,.val (zL R) a)::M) L Q):zm C T d ops (⟨Ob t,.nilCheck x,ty,p,af,gd⟩::rest) M L Q:=zwS w rfl rfl hx r
theorem wnr {b b':Nat} (hx:Opd M x (.raw (.ptr b b'))) (w:Want ops M Od gd) (r:zm C T d ops rest ((t,.raw (.ptr b b'))::M) L Q):zm C T d ops (⟨Ob t,.nilCheck x,ty,p,af,gd⟩::rest) M L Q:=zus w rfl rfl hx r
theorem wex {es:List TE} (hx:Opd M x (.tup es)) (he:es[i]?=Ob e) (w:Want ops M Od gd) (r:zm C T d ops rest ((t,e)::M) L Q):zm C T d ops (⟨Ob t,.extract x i,ty,p,af,gd⟩::rest) M L Q:=zA8 he w rfl rfl hx r
theorem wbx (hx:Opd M x (.val R a)) (w:Want ops M Od gd) (r:zm C T d ops rest ((t,.val (zL R) a)::M) L Q):zm C T d ops (⟨Ob t,.box et x,ty,p,af,gd⟩::rest) M L Q:=zBc w rfl rfl hx r
theorem wbs {bytes N:Nat} {parts:Array (Nat×Operand)} [hs:iS T st R et] [hy:iY T et R bytes] (he:Elts M R 0 parts.toList xs) (hn:xs.length=N) (hb:N*R.sz<=2 ^ 24) (w:Want ops M Od gd) (r:zm C T d ops rest ((t,.val (zb R) xs)::M) L Q):zm C T d ops (⟨Ob t,.buildSlice st N parts,ty,p,af,gd⟩::rest) M L Q:=zCo hs.s hy.y w rfl rfl he hn hb r
theorem wmk {bytes:Nat} {x0:A} [hs:iS T st R et] [hy:iY T et R bytes] [hz:iZ T et R x0] (hl:Opd M x (.val (zh .i64) m)) (hc:Opd M y (.val (zh .i64) m)) (hm:mkO bytes m x0=Ob xs) (w:Want ops M Od gd) (r:∀ v,zm C T d ops rest ((t,.raw v)::M) ((v,.row R xs)::L) Q):zm C T d ops (⟨Ob t,.makeSlice st x y,ty,p,af,gd⟩::rest) M L Q:=zB9 hs.s hy.y hz.z hm w rfl rfl hl hc r
theorem wap {H bytes:Nat} {L':Own} {zs:List A} [hs:iS T st R et] [hy:iY T et R bytes] (hx:Opd M x (.raw v)) (hk:L[H]?=Ob (v,.row R xs)) (hy':Opd M y (.val (zb R) ys)) (hap:zcY bytes xs ys=Ob zs) (hL:zcR L H=Ob L') (w:Want ops M Od gd) (r:∀ v',zm C T d ops rest ((t,.raw v')::M) ((v',.row R zs)::L') Q) (hra:zgC d M L H):zm C T d ops (⟨Ob t,.call ⟨.builtin .append,#[x,y],#[st,st]⟩,ty,p,af,gd⟩::rest) M L Q:=zoJ H hs.s hy.y hap w rfl rfl rfl rfl rfl hx hk hy' hL r hra
theorem wso {H i0 off:Nat} {m0:Int} {L':Own} {b:B} {g:A->B} {f:A->B->A} [hu:iU T et S] (hx:Opd M x (.elt v i0 off)) (hk:L[H]?=Ob (v,.row R xs)) (hf:FOk R off S g f) (hy:Opd M y (.val S b)) (e0:m0.toNat=i0) (hi:idx xs m0=Ob a) (hL:zfE L H (v,.row R (xs.set i0 (f a b)))=Ob L') (w:Want ops M Od gd) (r:zm C T d ops rest M L' Q):zm C T d ops (⟨Oe,.store et x y,ty,p,af,gd⟩::rest) M L Q:=zpy H hu.u hf (e0▸(zdi hi).2.2.2) w rfl rfl hx hy hk hL r
theorem wsb {H b b':Nat} {es:List TE} {L':Own} [hu:iU T et R] (hx:Opd M x (.raw (.ptr b b'))) (hk:L[H]?=Ob (.ptr b 0,.box es)) (hy:Opd M y (.val R a)) (hg:R.agg=Oc) (h1:R.sz=1) (hq:b'<es.length) (hL:zfE L H (.ptr b 0,.box (es.set b' (.val R a)))=Ob L') (w:Want ops M Od gd) (r:zm C T d ops rest M L' Q):zm C T d ops (⟨Oe,.store et x y,ty,p,af,gd⟩::rest) M L Q:=zjL H (h1▸hu.u.sz) hk hq w rfl rfl hx hy hg hL r
theorem wss {H b:Nat} {es es':List TE} {L':Own} [hu:iU T et R] (hx:Opd M x (.raw (.ptr b 0))) (hk:L[H]?=Ob (.ptr b 0,.box es)) (hy:Opd M y (.val R a)) (hc:Cells R a es') (hl:es'.length=es.length) (hL:zfE L H (.ptr b 0,.box es')=Ob L') (w:Want ops M Od gd) (r:zm C T d ops rest M L' Q):zm C T d ops (⟨Oe,.store et x y,ty,p,af,gd⟩::rest) M L Q:=znE H hu.u hk hc hl w rfl rfl hx hy hL r
theorem FL {p:Prop} (h:p:=by
 repeat first | exact zc9 | exact zeX | exact zg7 | apply zcf
 all_goals fail):p:=h
theorem EF {p:Prop} (h:p:=by
 repeat first | exact .n | (apply Flats.v; exact FL) | (apply Flats.r; exact FL)
 all_goals fail):p:=h
theorem ED {p:Prop} (h:p:=by
 repeat first | exact .n | (apply Lends.c; apply Lend.o; exact EO) | (apply Lends.c; apply Lend.r; exact EO; exact EL) | (apply Lends.c; apply Lend.b; exact EO; exact EL; exact EC)
 all_goals fail):p:=h
theorem wne {a':A} [BEq A] [hs:iE T u R λx y=>x==y] (hx:Opd M x (.val R a)) (hy:Opd M y (.val R a')) (w:Want ops M Od gd) (r:zm C T d ops rest ((t,.val zw (a !=a'))::M) L Q):zm C T d ops (⟨Ob t,.binOp .neq u x y u',ty,p,af,gd⟩::rest) M L Q:=zBk hs.e hs.a w rfl rfl hx hy r
theorem wbu {zc:List zd} {places:List (Nat×Nat)} {parts:Array (Nat×Operand)} [hb:iB T et R zc places] (h:Bld M zc places R 0 0 parts.toList a) (w:Want ops M Od gd) (r:zm C T d ops rest ((t,.val R a)::M) L Q):zm C T d ops (⟨Ob t,.build et parts,ty,p,af,gd⟩::rest) M L Q:=zkr hb.b w rfl rfl hb.a h r
theorem wsc {lo hi:Option Operand} {i0 j0:Int} [hs:iS T st R et] (hx:Opd M x (.val (zb R) xs)) (hlo:Bnd M lo 0 i0) (hhi:Bnd M hi (zq xs) j0) (hn:slO xs i0 j0=Ob ys) (w:Want ops M Od gd) (r:zm C T d ops rest ((t,.val (zb R) ys)::M) L Q):zm C T d ops (⟨Ob t,.slice st x lo hi Oe,ty,p,af,gd⟩::rest) M L Q:=zBg hs.s hn w rfl rfl hx hlo hhi r
theorem wcb {az:Array Operand} {ats:Array TypeId} {α β:Type} {g:FuncId} {mm:Option α} {as:List TE} {rs:α->List RE} {f:α->Option β} {o:β} (ho:Zb mm f=Ob o) [hf:FI T g mm as rs] (hfl:∀ y,Flats (rs y)) (ha:Lends M L az.toList as) (hcs:T.consts.get g=Oe) (w:Want ops M Od gd) (r:∀ y,mm=Ob y->f y=Ob o->RQ (rs y) L λes L'=>zm C T d ops rest ((t,zoK es)::M) L' Q):zm C T d ops (⟨Ob t,.call ⟨.value (.func g),az,ats⟩,ty,p,af,gd⟩::rest) M L Q:=by
 obtain ⟨y,h1,h2⟩:=bnd ho;exact zfF (fi h1) (hfl y) hcs w rfl rfl rfl .f ha (r y h1 h2)
theorem wco {az:Array Operand} {ats:Array TypeId} {α β:Type} {g:FuncId} {mm:Option α} {as:List TE} {rs:α->List RE} {f:α->Option β} {o:β} (ho:Zb mm f=Ob o) [hf:FI T g mm as rs] (ha:Opds M az.toList as) (hcs:T.consts.get g=Oe) (w:Want ops M Od gd) (r:∀ y,mm=Ob y->f y=Ob o->RQ (rs y) L λes L'=>zm C T d ops rest ((t,zoK es)::M) L' Q):zm C T d ops (⟨Ob t,.call ⟨.value (.func g),az,ats⟩,ty,p,af,gd⟩::rest) M L Q:=by
 obtain ⟨y,h1,h2⟩:=bnd ho;exact zzm (pre:=[]) (post:=[]) (vs:=[]) (fi h1) hcs w rfl rfl rfl .f ha (r y h1 h2)
theorem xmk {bytes:Nat} {x0:A} [hs:iS T st R et] [hy:iY T et R bytes] [hz:iZ T et R x0] (r:∀ v,zm C T d ops rest ((t,.raw v)::M) ((v,.row R xs)::L) Q) (hl:Opd M x (.val (zh .i64) m):=by exact EO) (hc:Opd M y (.val (zh .i64) m):=by exact EO) (hm:mkO bytes m x0=Ob xs:=by assumption) (w:Want ops M Od gd:=by exact EW):zm C T d ops (⟨Ob t,.makeSlice st x y,ty,p,af,gd⟩::rest) M L Q:=wmk hl hc hm w r
theorem xap {H bytes:Nat} {L':Own} {zs:List A} [hs:iS T st R et] [hy:iY T et R bytes] (r:∀ v',zm C T d ops rest ((t,.raw v')::M) ((v',.row R zs)::L') Q) (hx:Opd M x (.raw v):=by exact EO) (hk:L[H]?=Ob (v,.row R xs):=by exact EL) (hy':Opd M y (.val (zb R) ys):=by exact EO) (hap:zcY bytes xs ys=Ob zs:=by assumption) (hL:zcR L H=Ob L':=by rfl) (w:Want ops M Od gd:=by exact EW) (hra:zgC d M L H:=by exact ROO):zm C T d ops (⟨Ob t,.call ⟨.builtin .append,#[x,y],#[st,st]⟩,ty,p,af,gd⟩::rest) M L Q:=wap hx hk hy' hap hL w r hra
theorem OKS {p:Prop} (h:p:=by
 intro _;repeat first | exact okn | apply okint | apply okbool | apply oknil | apply okraw | apply oknilN
 all_goals fail):p:=h
theorem xal {zv:zd} {es:List TE} (hz:zeS T et=Ob zv) (r:∀ b,zm C T d ops rest ((t,.raw (.ptr b 0))::M) ((.ptr b 0,.box es)::L) Q) (hes:∀ z,zB z es zv.cells:=by exact OKS) (h1:zv.cells.all zd.one=Od:=by rfl) (w:Want ops M Od gd:=by exact EW):zm C T d ops (⟨Ob t,.alloc et,ty,p,af,gd⟩::rest) M L Q:=zr2 hz hes h1 w rfl rfl r
theorem xbo {es:List TE} (r:∀ b,zm C T d ops rest ((t,.raw (.ptr b 0))::M) ((.ptr b 0,.box es)::L) Q) (hx:Opd M x (.val R a):=by exact EO) (hc:Cells R a es:=by exact EC) (w:Want ops M Od gd:=by exact EW):zm C T d ops (⟨Ob t,.box et x,ty,p,af,gd⟩::rest) M L Q:=zzl hc w rfl rfl hx r
theorem wrr {id:Nat} {os:Array Oper} {b:Code} (r:zm C T Oe os.toList os.toList M L (zCb C T b P .normal)):zeW C T (.seq (.region id os Oc) b) M L P:=zqI (zhp r)
theorem wnq {b:Code} {P2:zaQ->zi->za->Prop} (r:zeW C T b M L P2):zm C T d ops [] M L (λfr h=>Run T b fr h P2):=zzu rfl r
theorem wct {α:Type} {b b':Code} {k1 k0:Option α} {o:α} (ho:cond q k1 k0=Ob o) (r1:q=Od->k1=Ob o->zeW C T b M L P) (r0:q=Oc->k0=Ob o->zeW C T b' M L P) (h:Opd M x (.val zw q):=by exact EO):zeW C T (.cond x b b') M L P:=
 zr5 h (λq=>r1 q (zCp ho q)) (λq=>r0 q (zCq ho q))
theorem wbr {α:Type} {k1 k0:Option α} {o:α} {F:Prop} (ho:cond q k1 k0=Ob o) (r1:q=Od->k1=Ob o->F) (r0:q=Oc->k0=Ob o->F):F:=by
 cases q with
 | true=>exact r1 rfl ho
 | false=>exact r0 rfl ho
theorem wbd {α β:Type} {m:Option α} {f:α->Option β} {o:β} {F:Prop} (ho:Zb m f=Ob o) (r:∀ a,m=Ob a->f a=Ob o->F):F:=by
 obtain ⟨a,h1,h2⟩:=bnd ho;exact r a h1 h2
def zrk (M:Env):List Nat->Env
 | []=>[]
 | k::ks=>match look M k with
  | some e=>(k,e)::zrk M ks
  | none=>zrk M ks
theorem zBy:zrk M []=[]:=rfl
theorem zBz {k:Nat} {ks:List Nat} {M':Env} (h:look M k=Ob e) (r:zrk M ks=M'):zrk M (k::ks)=(k,e)::M':=by
 simp only [zrk,h,r]
theorem SEL {p:Prop} (h:p:=by
 repeat first | exact zBy | (apply zBz; rfl)
 all_goals fail):p:=h
theorem ALL {p:Prop} (h:p:=by
 repeat first | exact trivial | refine ⟨rfl, ?_⟩
 all_goals fail):p:=h
theorem NE {p:Prop} (h:p:=by
 intro t;repeat first | exact (λe=>by cases e) | rcases t with t | t
 all_goals fail):p:=h
theorem lf {α:Type} {a:α} {M':List zd->Env} {L':List zd->Own} (g:List zd) (is:List Nat) (q:zmu M (M' g):=by exact ALL) (hL:picks L is=L' g:=by rfl) (hn:is.Nodup:=by decide):∀ fr h,St C M L fr h->a=a/\∃ g,St C (M' g) (L' g) fr h:=λ_ _ s=>⟨rfl,g,s.pick is q hL hn⟩
theorem fn {g:FuncId} {F:Func} {c:Code} {as:List TE} {rs:List RE} (run:∀ C,C.B0=[]->zeW C T c (entry 0 as) [] (zAH C T F.results.toList rs)) (hF:T.funcs.get g=Ob F:=by rfl) (hb:F.body=Ob c:=by rfl) (hn:Nat.blt F.ntmps as.length=Oc:=by rfl):Fun T g as rs:=zzq hF hb hn run
end
end Go.Ai.Sx
namespace Go.Ai.Sx
structure Hold (q:Prop):Prop where h:q
theorem iu {T:Tab} {t:TypeId} {A:Type} {R:Rep A} [h:iU T t R]:Und T t R:=h.u
theorem st {p q:Prop} (r:q) (h:Hold q->p:=by
 intro r;first
  | (apply wmv; exact EM; exact EW; exact r.h)
  | (apply wsk; exact EN; exact r.h)
  | (apply wsg; exact EM; exact EW; exact r.h)
  | (apply wld; exact EO; exact EW; exact r.h)
  | (apply wfa; exact EO; exact EW; exact r.h)
  | (apply wp1; exact EO; exact EH; exact EO; exact EW; exact r.h)
  | (apply wp0; exact EO; exact EH; exact EO; exact EW; exact r.h)
  | (apply war; exact EO; exact EO; constructor; exact EW; exact r.h)
  | (apply wcm; exact EO; exact EO; constructor; exact EW; exact r.h)
  | (apply wln; exact EO; exact EW; exact r.h)
  | (apply wno; exact EO; exact EW; exact r.h)
  | (apply wex; exact EO; rfl; exact EW; exact r.h)
  | (apply wbx; exact EO; exact EW; exact r.h)
  | (apply wbs; exact EA; rfl; decide; exact EW; exact r.h)
  | (apply wlb; exact EO; exact EL; rfl; rfl; exact EW; exact ER; exact r.h)
  | (apply wle; exact EO; exact EL; exact FOk.self; rfl; exact EQ; exact EW; exact ER; exact r.h)
  | (apply wso; exact EO; exact EL; exact FOk.self; exact EO; rfl; exact EQ; rfl; exact EW; exact r.h)
  | (apply wss; exact EO; exact EL; exact EO; exact EC; rfl; rfl; exact EW; exact r.h)
  | (apply wsb; exact EO; exact EL; exact EO; rfl; rfl; exact Nat.le_of_ble_eq_true rfl; rfl; exact EW; exact r.h)
  | (apply wfr; exact EO; exact EW; exact r.h)
  | (apply wfe; exact EO; exact EW; exact r.h)
  | (apply wlo; exact EO; exact EL; exact EW; exact r.h)
  | (apply wnk; exact EO; exact EW; exact r.h)
  | (apply wnr; exact EO; exact EW; exact r.h)
  | (apply wfd; exact EO; exact EW; rfl; exact r.h)
  | (apply wse; exact EO; exact EO; exact EW; exact r.h)
  | (apply wne; exact EO; exact EO; exact EW; exact r.h)
  | (apply wbu; exact EB; exact EW; exact r.h)
  | (apply wng; exact EO; exact EW; exact r.h)
  | (apply wcv; exact EO; exact EW; exact r.h)
  | (apply wmx; exact EO; exact EO; exact EW; exact r.h)
  | (apply wmn; exact EO; exact EO; exact EW; exact r.h)):p:=h ⟨r⟩
theorem sp {p q:Prop} (r:q) (h:Hold q->p:=by
 intro r;first
  | (apply wix; exact EO; exact EO; exact EQ; exact EW; exact r.h)
  | (apply wio; exact EO; exact EL; exact EO; exact EQ; exact EW; exact r.h)
  | (apply wdv; exact EO; exact EO; exact EQ; exact EW; exact r.h)
  | (apply wrm; exact EO; exact EO; exact EQ; exact EW; exact r.h)
  | (apply wsl; exact EO; exact EO; exact EQ; exact EW; exact r.h)
  | (apply wsr; exact EO; exact EO; exact EQ; exact EW; exact r.h)
  | (apply wsc; exact EO; exact ES; exact ES; exact EQ; exact EW; exact r.h)
  | (apply win; exact EO; exact EO; exact EQ; exact EW; exact r.h)
  | (apply wia; exact EO; exact EL; exact EO; exact EQ; exact EW; exact r.h)):p:=h ⟨r⟩
structure Cn (n:Nat):Prop where t:True
theorem Cn.dec {n:Nat} (_:Cn (n+1)):Cn n:=⟨trivial⟩
theorem run {p q:Prop} (n:Nat) (r:q) (h:Cn n->Hold q->p:=by
 intro hn r;repeat (replace hn:=hn.dec; first | refine st ?_ | refine sp ?_ | refine wnq ?_ | refine zqI ?_ | refine zhp ?_ | refine zku ?_ | refine zkw rfl ?_ | refine zaK [] Z ?_ | refine zkv rfl ?_ | refine zjN rfl ?_)
 exact r.h):p:=h ⟨trivial⟩ ⟨r⟩
theorem RET {p:Prop} (h:p:=by
 repeat first | exact .n | (apply Rets.v; rfl) | (apply Rets.c; exact iu; rfl) | (apply Rets.r; rfl; exact EL)
 all_goals fail):p:=h
theorem w {α:Type} {m:Option α} {v:α} {p:Prop} (ho:m=Ob v) (h:m=Ob v->p:=by
 intro ho;repeat' first
  | refine st ?_
  | (apply wbd ho; intro _ _ ho; refine sp ?_)
  | (apply wcb ho; intro _; exact EF; exact ED; rfl; exact EW; intro _ _ ho)
  | (apply wco ho; exact EA; rfl; exact EW; intro _ _ ho)
  | refine wrr ?_ | refine wnq ?_ | refine zqI ?_ | refine zhp ?_ | refine zaK [] Z ?_ | refine zkw rfl ?_ | refine zku ?_ | refine zkv rfl ?_
  | refine wct ho (λ_ ho=>?_) (λ_ ho=>?_)
  | (cases ho; exact zdD (lf [] []))
  | (cases ho; exact zpC (lf [] []))
  | (cases ho; exact zdR (lf [] []))
  | (cases ho; exact zdL (lf [] []))
  | (cases ho; apply zdR; apply zdd; exact .inr rfl; exact RET; decide)
  | (cases ho; apply zdD; apply zdd; exact .inl rfl; exact RET; decide)
  | refine wbr ho (λ_ ho=>?_) (λ_ ho=>?_)):p:=h ho
universe u
section
variable {T:Tab} {t u s i et ft off n:Nat} {A B D:Type} {R:Rep A} {S:Rep B} {U:Rep D} {x:A}
theorem iu' [h:iU T t R]:Und T t R:=h.u
theorem is' [h:iS T t R et]:Sl T t et R:=h.s
theorem iy' [h:iY T t R n]:Ty T t R n:=h.y
theorem iz' [h:iZ T t R x]:Zr T t R x:=h.z
theorem ia' [h:iA T t R et n]:Ar1 T t et n R:=h.a
theorem uK {k:TypeDesc} (h:T.und t=Ob k:=by as_aux_lemma=>kernel_rfl):iK T t k:=⟨h⟩
theorem uU (h:szT T t=Ob R.sz:=by as_aux_lemma=>kernel_rfl) (h':zeb T t=Ob R.agg:=by as_aux_lemma=>kernel_rfl):iU T t R:=⟨⟨h,h'⟩⟩
theorem uS (h:T.und t=Ob (.slice et):=by as_aux_lemma=>kernel_rfl) (h1:szT T et=Ob R.sz:=by as_aux_lemma=>kernel_rfl) (h2:zeb T et=Ob R.agg:=by as_aux_lemma=>kernel_rfl) (h3:Nat.blt 0 R.sz=Od:=by as_aux_lemma=>kernel_rfl):iS T t R et:=⟨⟨h,h1,h2,Nat.lt_of_not_le λq=>by rw [Nat.blt,Nat.ble_eq] at h3; omega⟩⟩
def tyB (T:Tab) (t n m:Nat):Bool:=match T.types.get t with
 | some i=>Nat.beq i.bytes n&&Nat.beq i.size m&&(match i.zero with | some z=>Nat.beq z.cells.length m | none=>Oc)&&Nat.blt 0 m
 | none=>Oc
theorem uY (h:tyB T t n R.sz=Od:=by as_aux_lemma=>kernel_rfl):iY T t R n:=by
 unfold tyB at h;split at h
 . rename_i j hj;simp only [Bool.and_eq_true,Nat.beq_eq] at h;obtain ⟨⟨⟨h1,h2⟩,h3⟩,h4⟩:=h;split at h3
   . rename_i z hz;exact ⟨⟨⟨j,hj,h1,h2⟩,⟨z,by unfold zeS; rw [hj]; exact hz,by simpa using h3⟩,by rw [Nat.blt,Nat.ble_eq] at h4; omega⟩⟩
   . cases h3
 . cases h
theorem uZ {zv:zd} (h:∀ z,TV R z zv x) (h':zeS T t=Ob zv:=by as_aux_lemma=>kernel_rfl):iZ T t R x:=⟨⟨⟨zv,h',h⟩⟩⟩
def zCf (T:Tab) (t:Nat):Option (List (Nat×Nat)):=match T.und t with
 | some (.struct fs)=>aplaces T fs.toList
 | _=>Oe
theorem uB {zc:List zd} {pl:List (Nat×Nat)} (h:zeS T t=Ob (.agg zc):=by as_aux_lemma=>kernel_rfl) (h1:zCf T t=Ob pl:=by as_aux_lemma=>kernel_rfl) (h2:R.agg=Od:=by rfl):iB T t R zc pl:=by
 refine ⟨⟨h, ?_⟩,h2⟩;unfold zCf at h1;split at h1
 . rename_i fs hf;exact ⟨fs,hf,h1⟩
 . cases h1
def zCg (T:Tab) (s i ft off n:Nat):Bool:=match T.und s with
 | some (.struct fs)=>(match fs[i]? with | some f=>Nat.beq f.offset off&&Nat.beq f.type ft | none=>Oc)&&(match szT T ft with | some m=>Nat.beq m n | none=>Oc)&&Nat.blt 0 n
 | _=>Oc
abbrev wh (x:A×B) (y:A):A×B:=(y,x.2)
abbrev wt (w:B->D->B) (x:A×B) (y:D):A×B:=(x.1,w x.2 y)
theorem fh:FOk (zC R S) 0 R (λx=>x.1) (λx y=>(y,x.2)):=FOk.here
theorem ft' {g:B->D} {w:B->D->B} (f:FOk S off U g w):FOk (zC R S) (R.sz+off) U (λx=>g x.2) (λx y=>(x.1,w x.2 y)):=FOk.there f
theorem uF {o:Nat} {g:A->B} {w:A->B->A} (k:FOk R o S g w) (h:zCg T s i ft off S.sz=Od:=by as_aux_lemma=>kernel_rfl) (e:o=off:=by rfl):iF T s i R S ft off g w:=by
 unfold zCg at h;split at h
 . rename_i fs hf;simp only [Bool.and_eq_true] at h;obtain ⟨⟨h1,h2⟩,h3⟩:=h;split at h1
   . rename_i f hg;simp only [Bool.and_eq_true,Nat.beq_eq] at h1;split at h2
     . rename_i m hm;rw [Nat.beq_eq] at h2;exact ⟨⟨⟨fs,f,hf,hg,h1.1,h1.2⟩,by rw [hm,h2]⟩,e▸k,by rw [Nat.blt,Nat.ble_eq] at h3; omega⟩
     . cases h2
   . cases h1
 . cases h
theorem uA (h:T.und t=Ob (.array n et):=by as_aux_lemma=>kernel_rfl) (h1:szT T et=Ob R.sz:=by as_aux_lemma=>kernel_rfl) (h2:zeb T et=Ob R.agg:=by as_aux_lemma=>kernel_rfl) (h3:szT T t=Ob (n*R.sz):=by as_aux_lemma=>kernel_rfl) (h4:zeb T t=Ob Od:=by as_aux_lemma=>kernel_rfl) (h5:0<R.sz:=by decide):iA T t R et n:=⟨⟨h,h1,h2,h3,h4,h5⟩⟩
class iL (T:Tab) (t:Nat) (zv:outParam zd) (es:outParam (List TE)):Prop where z:zeS T t=Ob zv
theorem uL {zv:zd} {es:List TE} (h:zeS T t=Ob zv:=by as_aux_lemma=>kernel_rfl):iL T t zv es:=⟨h⟩
end
structure Arg {A:Sort u} (a:A):Prop where t:True
theorem arg {A:Sort u} {a:A}:Arg a:=⟨trivial⟩
theorem go {p q:Prop} (r:q) (h:Hold q->p:=by
 intro r;repeat (first | refine st ?_ | refine sp ?_ | refine wnq ?_ | refine zqI ?_ | refine zhp ?_ | refine zku ?_ | refine zkw rfl ?_ | refine zaK [] Z ?_ | refine zkv rfl ?_ | refine zjN rfl ?_)
 exact r.h):p:=h ⟨r⟩
section
variable {C:Ctx} {T:Tab} {p:Prop} {α β σ τ:Type} {k k':Option α} {m:Option α} {f:α->Option β} {o:α} {o':β} {c:Bool}
theorem gct {q1 q0:Prop} (ho:cond c k k'=Ob o) (r1:c=Od->k=Ob o->q1) (r0:c=Oc->k'=Ob o->q0) (h:cond c k k'=Ob o->Hold (c=Od->k=Ob o->q1)->Hold (c=Oc->k'=Ob o->q0)->p:=by
 intro ho r1 r0;refine go ?_;exact wct ho r1.h r0.h):p:=h ho ⟨r1⟩ ⟨r0⟩
theorem gk {q:Prop} (r:q) (h:Hold q->p:=by
 intro r;refine go ?_;first | exact zr5 EO (λ_=>r.h) (λhq=>Bool.noConfusion hq) | exact zr5 EO (λhq=>Bool.noConfusion hq) (λ_=>r.h)):p:=h ⟨r⟩
theorem gcl {q:α->Prop} (ho:Zb m f=Ob o') (r:∀ y,m=Ob y->f y=Ob o'->q y) (h:Zb m f=Ob o'->Hold (∀ y,m=Ob y->f y=Ob o'->q y)->p:=by
 intro ho r;refine go ?_;first
  | (apply wcb ho; intro _; exact EF; exact ED; rfl; exact EW; intro y h1 h2; first | (show zm ..; exact r.h y h1 h2) | exact r.h y h1 h2)
  | (apply wco ho; exact EA; rfl; exact EW; intro y h1 h2; first | (show zm ..; exact r.h y h1 h2) | exact r.h y h1 h2)):p:=h ho ⟨r⟩
theorem wzl {M:Env} {L:Own} {Q:zi->za->Prop} {d:Option (List Nat)} {ops rest:List Oper} {t et ty:Nat} {ps:String} {af:Array Edge} {gd:Option (Nat×Bool)} {zv:zd} {es:List TE} [hz:iL T et zv es] (hes:∀ z,zB z es zv.cells) (h1:zv.cells.all zd.one=Od) (w:Want ops M Od gd) (r:∀ b,zm C T d ops rest ((t,.raw (.ptr b 0))::M) ((.ptr b 0,.box es)::L) Q):zm C T d ops (⟨Ob t,.alloc et,ty,ps,af,gd⟩::rest) M L Q:=zr2 hz.z hes h1 w rfl rfl r
theorem gal {q:Nat->Prop} (r:∀ b,q b) (h:Hold (∀ b,q b)->p:=by
 intro r;refine go ?_;apply wzl;exact OKS;rfl;exact EW;exact r.h):p:=h ⟨r⟩
theorem gmk {q:zd->Prop} (r:∀ b,q b) (h:Hold (∀ b,q b)->p:=by
 intro r;refine go ?_;exact xmk r.h):p:=h ⟨r⟩
theorem gap {q:zd->Prop} (r:∀ b,q b) (h:Hold (∀ b,q b)->p:=by
 intro r;refine go ?_;exact xap r.h):p:=h ⟨r⟩
theorem c2' {A B:Type} {R:Rep A} {S:Rep B} {a:A} {b:B} {es:List TE} (h1:Cells R a (es.take R.sz)) (h2:Cells S b (es.drop R.sz)):Cells (zC R S) (a,b) es:=zt h1 h2 (List.take_append_drop ..)
theorem ED2 {p:Prop} (h:p:=by
 repeat first | exact zb7 | exact zz rfl | (apply c1; rfl) | (apply c3; rfl) | apply c2'
 all_goals fail):p:=h
theorem zCr {n:Nat} {q:Prop} (hn:Cn n) (r:q) (h:Cn n->Hold q->p:=by
 intro hn r;repeat (replace hn:=hn.dec; first | refine st ?_ | refine sp ?_ | refine wnq ?_ | refine zqI ?_ | refine zhp ?_ | refine zku ?_ | refine zkw rfl ?_ | refine zaK [] Z ?_ | refine zkv rfl ?_ | refine zjN rfl ?_)
 exact r.h):p:=h hn ⟨r⟩
theorem nrA {C:Ctx} {M:Env} {L:Own} {A:Type} {R:Rep A} (_:Arg R):∀ z fr h,StZ C M L z fr h->∃ z',z.le z'/\StZ C M ((.nsz,.row R [])::L) z' fr h:=zbN R
theorem gnr {A:Type} (R:Rep A) {q:Prop} (r:q) (h:Arg R->Hold q->p:=by
 intro R r;refine go ?_;refine zdh (nrA R) ?_;exact zeq (.n rfl) rfl rfl .nilr r.h):p:=h arg ⟨r⟩
theorem cmA {M:Env} {L:Own} {Q:zi->za->Prop} {d:Option (List Nat)} {ops rest:List Oper} {t ty:Nat} {ps:String} {af:Array Edge} {gd:Option (Nat×Bool)} {az:Array Operand} {ats:Array TypeId} {g:FuncId} {as:List TE} {rs:List RE} {L0 Lr:Own} {L1:List zd->Own} {ks js:List Nat} (_:Arg ks) (_:Arg js) (hf:zfL T g as L0 rs L1) (hser:ziu d ops rest) (h0:picks L ks=L0) (hr:picks L js=Lr) (hn:(ks++js).Nodup) (hcst:T.consts.get g=Oe) (w:Want ops M Od gd) (hvs:Opds M az.toList as) (r:∀ γ,RQ rs (L1 γ++Lr) λes L'=>zm C T Oe ops rest ((t,zoK es)::M) L' Q):zm C T d ops (⟨Ob t,.call ⟨.value (.func g),az,ats⟩,ty,ps,af,gd⟩::rest) M L Q:=zpF ks js hser hf h0 hr hn hcst w rfl rfl rfl .f hvs r
theorem gcm {g:FuncId} {as:List TE} {rs:List RE} {L0:Own} {L1:List zd->Own} (ks js:List Nat) (hf:zfL T g as L0 rs L1) {q:Prop} (r:q) (h:Arg ks->Arg js->zfL T g as L0 rs L1->Hold q->p:=by
 intro ks js hf r;refine go ?_;apply cmA ks js hf;exact λ_ h=>by cases h
 rfl;rfl;decide;rfl;exact EW;exact EA;exact r.h):p:=h arg arg hf ⟨r⟩
theorem wvv {M:Env} {L:Own} {Q:zi->za->Prop} {d:Option (List Nat)} {ops rest:List Oper} {t ty:Nat} {ps:String} {af:Array Edge} {gd:Option (Nat×Bool)} {X Y:Type} {ins:X->List TE} {outs:Y->List RE} {z:Operand} {az:Array Operand} {ats:Array TypeId} {f:X->Option Y} {x:X} {y:Y} (hx:Opd M z (.val (rFn T X Y ins outs) f)) (hf:f x=Ob y) (w:Want ops M Od gd) (hvs:Opds M az.toList (ins x)) (r:RQ (outs y) L λes L'=>zm C T d ops rest ((t,zoK es)::M) L' Q):zm C T d ops (⟨Ob t,.call ⟨.value z,az,ats⟩,ty,ps,af,gd⟩::rest) M L Q:=ziZ hf w rfl rfl rfl hx hvs r
theorem gcv {q:Prop} (hy:m=Ob o) (r:q) (h:m=Ob o->Hold q->p:=by
 intro hy r;refine go ?_;apply wvv;exact EO;exact hy;exact EW;exact EA;show zm ..;exact r.h):p:=h hy ⟨r⟩
theorem wlc {H:Nat} {M:Env} {L:Own} {Q:zi->za->Prop} {d:Option (List Nat)} {ops rest:List Oper} {t et ty b:Nat} {ps:String} {af:Array Edge} {gd:Option (Nat×Bool)} {A:Type} {R:Rep A} {x:Operand} {es:List TE} {a:A} (_:Arg a) (_:Arg H) [hu:iU T et R] (hx:Opd M x (.raw (.ptr b 0))) (hk:L[H]?=Ob (.ptr b 0,.box es)) (hc:Cells R a es) (w:Want ops M Od gd) (hls:Listed d ops rest) (r:zm C T d ops rest ((t,.val R a)::M) L Q):zm C T d ops (⟨Ob t,.load et x,ty,ps,af,gd⟩::rest) M L Q:=zuw H hls hu.u hc w rfl rfl hx hk r
theorem glb {A:Type} (a:A) (H:Nat) {q:Prop} (r:q) (h:Arg a->Arg H->Hold q->p:=by
 intro a k r;refine go ?_;apply wlc a k;exact EO;rfl;exact ED2;exact EW;exact ER;exact r.h):p:=h arg arg ⟨r⟩
theorem EAR {p:Prop} (h:p:=by
 repeat first | exact trivial | refine ⟨rfl, ?_⟩
 all_goals fail):p:=h
theorem frA {M:Env} {L L':Own} {Q:zi->za->Prop} {d:Option (List Nat)} {ops rest:List Oper} {A:Type} {R:Rep A} {a:A} {es:List TE} {b H:Nat} {ts:List Nat} (_:Arg R) (_:Arg a) (_:Arg H) (_:Arg ts) (hk:L[H]?=Ob (.ptr b 0,.box es)) (hc:Cells R a es) (hL:zcR L H=Ob L') (hts:zir M (.ptr b 0) ts) (r:zm C T d ops rest (zf2 ts (.val (zL R) a) M) L' Q):zm C T d ops rest M L Q:=zdh (zb8 H ts hc hk hL hts) r
theorem gfz {A:Type} (n:Nat) (R:Rep A) (a:A) (H:Nat) (ts:List Nat) {q:Prop} (r:q) (h:Cn n->Arg R->Arg a->Arg H->Arg ts->Hold q->p:=by
 intro n R a k ts r;refine zCr n ?_;apply frA R a k ts;rfl;exact ED2;rfl;exact EAR;exact r.h):p:=h ⟨trivial⟩ arg arg arg arg ⟨r⟩
theorem lfA {M:Env} {L:Own} {γ:Type} {a:γ} {M':List zd->Env} {L':List zd->Own} {g:List zd} {is:List Nat} (_:Arg g) (_:Arg is) (q:zmu M (M' g):=by exact ALL) (hL:picks L is=L' g:=by rfl) (hn:is.Nodup:=by decide):∀ fr h,St C M L fr h->a=a/\∃ g,St C (M' g) (L' g) fr h:=λ_ _ s=>⟨rfl,g,s.pick is q hL hn⟩
theorem pkA {M M':Env} {L L':Own} {is:List Nat} (_:Arg is) (q:zmu M M':=by exact ALL) (hL:picks L is=L':=by rfl) (hn:is.Nodup:=by decide):∀ fr h,St C M L fr h->St C M' L' fr h:=λ_ _ s=>s.pick is q hL hn
theorem lv (g:List zd) (is:List Nat) {a b:β} (ho:Ob a=Ob b) (h:Arg g->Arg is->Ob a=Ob b->p:=by
 intro g is ho;refine go ?_;cases ho;first | exact zdD (lfA g is) | exact zpC (lfA g is) | exact zdR (lfA g is) | exact zdL (lfA g is) | exact id (lfA g is)):p:=h arg arg ho
theorem RTb {L:Own} {M:Env} {A:Type} {R:Rep A} {y:A} {t b:Nat} {ty:TypeId} {es:List TE} {res:List ResultVar} {rs:List RE} {k:Nat} {ks:List Nat} (h:look M t=Ob (.raw (.ptr b 0))) (hk:L[k]?=Ob (.ptr b 0,.box es)) (hu:Und T ty R) (hc:Cells R y es) (r:Rets T M L res rs ks):Rets T M L (.cell t ty::res) (.val R y::rs) ks:=.b k hu hc h hk r
theorem RT {p:Prop} (h:p:=by
 repeat first | exact .n | (apply Rets.v; rfl) | (apply Rets.c; exact iu; rfl) | (apply Rets.r; rfl; exact EL) | (apply RTb; rfl; exact EL; exact iu; exact ED2)
 all_goals fail):p:=h
theorem rv {a b:β} (ho:Ob a=Ob b) (h:Ob a=Ob b->p:=by
 intro ho;refine go ?_;cases ho;first | (apply zdR; apply zdd; exact .inr rfl; exact RT; decide) | (apply zdD; apply zdd; exact .inl rfl; exact RT; decide) | (apply id; apply zdd; exact .inr rfl; exact RT; decide) | (apply id; apply zdd; exact .inl rfl; exact RT; decide)):p:=h ho
theorem we {m:Option α} {v:α} (ho:m=Ob v) (h:m=Ob v->p:=by
 intro ho;repeat' first
  | refine st ?_
  | (apply wbd ho; intro _ _ ho; refine sp ?_)
  | (apply wcb ho; intro _; exact EF; exact ED; rfl; exact EW; intro _ _ ho)
  | (apply wco ho; exact EA; rfl; exact EW; intro _ _ ho)
  | refine wrr ?_ | refine wnq ?_ | refine zqI ?_ | refine zhp ?_ | refine zaK [] Z ?_ | refine zkw rfl ?_ | refine zku ?_ | refine zkv rfl ?_ | refine zjN rfl ?_
  | refine wct ho (λ_ ho=>?_) (λ_ ho=>?_)
  | (apply wzl; exact OKS; rfl; exact EW; intro _)
  | (cases ho; exact zdD (lf [] []))
  | (cases ho; exact zpC (lf [] []))
  | (cases ho; exact zdR (lf [] []))
  | (cases ho; exact zdL (lf [] []))
  | (cases ho; apply zdR; apply zdd; exact .inr rfl; exact RT; decide)
  | (cases ho; apply zdD; apply zdd; exact .inl rfl; exact RT; decide)
  | refine wbr ho (λ_ ho=>?_) (λ_ ho=>?_)):p:=h ho
theorem ubn {m:Option α} {f:α->Option β} {o:Option β} (h:Zb m f=o):Zb m f=o:=h
theorem ucn {o:Option α} (h:cond c k k'=o):cond c k k'=o:=h
theorem usm {a:α} {o:Option α} (h:Ob a=o):Ob a=o:=h
theorem fw {g:FuncId} {as:List TE} {rs:α->List RE} (h:FI T g m as rs:=by
 refine ⟨λout ho=>?_⟩;first | replace ho:=ubn ho | replace ho:=ucn ho | replace ho:=usm ho
 refine fn λ_ _=>?_;exact we ho):FI T g m as rs:=h
theorem zBA {L:Own}:picks L []=[]:=rfl
theorem zBB {L L':Own} {k:Nat} {ks:List Nat} {e:zd×Obj} (h:L[k]?=Ob e) (r:picks L ks=L'):picks L (k::ks)=e::L':=by
 simp only [picks,h,r]
theorem PKS {p:Prop} (h:p:=by
 repeat first | exact zBA | (apply zBB; rfl)
 all_goals fail):p:=h
theorem zff {α β γ:Type} {m:Option α} {m2:α->Option β} {k:α->β->Option γ} {y:γ} (h:m.bind (λx=>(m2 x).bind (k x))=Ob y):∃ x,m=Ob x/\∃ z,m2 x=Ob z/\k x z=Ob y:=by
 obtain ⟨x,h1,h⟩:=bnd h;exact ⟨x,h1,bnd h⟩
theorem zok {α β γ W:Type} {m:Option α} {m2:α->Option β} {m3:α->β->Option γ} {k:α->β->γ->Option W} {y:W} (h:m.bind (λx=>(m2 x).bind λz=>(m3 x z).bind (k x z))=Ob y):∃ x,m=Ob x/\∃ z,m2 x=Ob z/\∃ u,m3 x z=Ob u/\k x z u=Ob y:=by
 obtain ⟨x,h1,h⟩:=bnd h;exact ⟨x,h1,zff h⟩
abbrev wI (n:Int):RE:=.val (zh .i64) n
abbrev wB (b:Bool):RE:=.val zw b
theorem zoY {M:Env}:∀ ks,zmu M (zrk M ks)
 | []=>trivial
 | k::ks=>by
  simp only [zrk];split
  . rename_i e h;exact ⟨h,zoY ks⟩
  . exact zoY ks
theorem wkA {M M':Env} {L L':Own} {R:zi->za->Prop} {ks is:List Nat} (_:Arg ks) (_:Arg is) (hs:zrk M ks=M') (hL:picks L is=L') (hn:is.Nodup) (k:∀ fr h,St C M' L' fr h->R fr h):∀ fr h,St C M L fr h->R fr h:=zBq is (hs▸zoY ks) hL hn k
theorem gwk {q:Prop} (ks is:List Nat) (r:q) (h:Arg ks->Arg is->Hold q->p:=by
 intro ks is r;refine wkA ks is SEL PKS Oa ?_;first | (show zeW ..; exact r.h) | (show zm ..; exact r.h) | exact r.h):p:=h arg arg ⟨r⟩
theorem wlq {M Mc:Env} {L Lc:Own} {P:zaQ->zi->za->Prop} {cc:Code} {f:σ->Option (σ⊕τ)} {N:Nat} {s0:σ} {tt:τ} (hit:iter f N s0=Ob tt) {ks os:List Nat} {V:σ->List zd->Sts} {X:τ->zaQ×(List zd->Sts)} {g0:List zd} (_:Arg ks) (_:Arg os) (_:Arg V) (_:Arg X) (_:Arg g0) (hs:zrk M ks=Mc) (hl:picks L os=Lc) (hin:∀ fr h,St C M L fr h->St C ((V s0 g0).1++Mc) ((V s0 g0).2++Lc) fr h) (hne:∀ t,(X t).1≠.normal)
 (body:∀ s g r,f s=Ob r->zeW C T cc ((V s g).1++Mc) ((V s g).2++Lc) (zwX C (λs g=>((V s g).1++Mc,(V s g).2++Lc)) (λt=>((X t).1,λg=>(((X t).2 g).1++Mc,((X t).2 g).2++Lc))) r))
 (out:∀ g,∀ fr h,St C (((X tt).2 g).1++Mc) (((X tt).2 g).2++Lc) fr h->P (X tt).1 fr h):zeW C T (.loop cc) M L P:=
 zzp (λs g=>((V s g).1++Mc,(V s g).2++Lc)) (λt=>((X t).1,λg=>(((X t).2 g).1++Mc,((X t).2 g).2++Lc))) f g0 hit hin hne body out
theorem glp {f:σ->Option (σ⊕τ)} {N:Nat} {s0:σ} {tt:τ} {q1:σ->List zd->σ⊕τ->Prop} {q2:List zd->Prop} (hit:iter f N s0=Ob tt) (ks os is:List Nat) (V:σ->List zd->Sts) (X:τ->zaQ×(List zd->Sts)) (g0:List zd)
 (body:∀ s g r,f s=Ob r->q1 s g r) (out:∀ g,q2 g) (h:iter f N s0=Ob tt->Arg ks->Arg os->Arg is->Arg V->Arg X->Arg g0->Hold (∀ s g r,f s=Ob r->q1 s g r)->Hold (∀ g,q2 g)->p:=by
 intro hit ks os is V X g0 b o;refine go ?_;refine wlq hit ks os V X g0 SEL PKS (pkA is) NE ?_ ?_
 . exact b.h
 . intro g;first | (show zeW ..; exact o.h g) | (show zm ..; exact o.h g) | exact o.h g):p:=h hit arg arg arg arg arg arg ⟨body⟩ ⟨out⟩
theorem wl2 {τ':Type} {M Mc:Env} {L Lc:Own} {P:zaQ->zi->za->Prop} {cc:Code} {f:σ->Option (σ⊕(τ⊕τ'))} {N:Nat} {s0:σ} {tt:τ⊕τ'} {F:τ->Option β} {G:τ'->Option β} (hit:iter f N s0=Ob tt) (ho:alt F G tt=Ob o') {ks os:List Nat} {V:σ->List zd->Sts} {X:τ->zaQ×(List zd->Sts)} {Y:τ'->zaQ×(List zd->Sts)} {g0:List zd} (a1:Arg ks) (a2:Arg os) (a3:Arg V) (_:Arg X) (_:Arg Y) (a4:Arg g0) (hs:zrk M ks=Mc) (hl:picks L os=Lc) (hin:∀ fr h,St C M L fr h->St C ((V s0 g0).1++Mc) ((V s0 g0).2++Lc) fr h) (hne:∀ t,(zAI X Y t).1≠.normal)
 (body:∀ s g r,f s=Ob r->zeW C T cc ((V s g).1++Mc) ((V s g).2++Lc) (zwX C (λs g=>((V s g).1++Mc,(V s g).2++Lc)) (λt=>((zAI X Y t).1,λg=>(((zAI X Y t).2 g).1++Mc,((zAI X Y t).2 g).2++Lc))) r))
 (o1:∀ a,F a=Ob o'->∀ g,∀ fr h,St C (((X a).2 g).1++Mc) (((X a).2 g).2++Lc) fr h->P (X a).1 fr h)
 (o2:∀ a,G a=Ob o'->∀ g,∀ fr h,St C (((Y a).2 g).1++Mc) (((Y a).2 g).2++Lc) fr h->P (Y a).1 fr h):zeW C T (.loop cc) M L P:=
 wlq hit a1 a2 a3 arg a4 hs hl hin hne body (match tt,ho with
  | .inl a,h=>o1 a h
  | .inr a,h=>o2 a h)
theorem gl2 {τ':Type} {f:σ->Option (σ⊕(τ⊕τ'))} {N:Nat} {s0:σ} {tt:τ⊕τ'} {F:τ->Option β} {G:τ'->Option β} {q1:σ->List zd->σ⊕(τ⊕τ')->Prop} {q2:τ->List zd->Prop} {q3:τ'->List zd->Prop} (hit:iter f N s0=Ob tt) (ho:alt F G tt=Ob o') (ks os is:List Nat) (V:σ->List zd->Sts) (X:τ->zaQ×(List zd->Sts)) (Y:τ'->zaQ×(List zd->Sts)) (g0:List zd)
 (body:∀ s g r,f s=Ob r->q1 s g r) (o1:∀ a,F a=Ob o'->∀ g,q2 a g) (o2:∀ a,G a=Ob o'->∀ g,q3 a g) (h:iter f N s0=Ob tt->alt F G tt=Ob o'->Arg ks->Arg os->Arg is->Arg V->Arg X->Arg Y->Arg g0->Hold (∀ s g r,f s=Ob r->q1 s g r)->Hold (∀ a,F a=Ob o'->∀ g,q2 a g)->Hold (∀ a,G a=Ob o'->∀ g,q3 a g)->p:=by
 intro hit ho ks os is V X Y g0 b o1 o2;refine go ?_;refine wl2 hit ho ks os V X Y g0 SEL PKS (pkA is) NE ?_ ?_ ?_
 . exact b.h
 . intro a h g;first | (show zeW ..; exact o1.h a h g) | (show zm ..; exact o1.h a h g) | exact o1.h a h g
 . intro a h g;first | (show zeW ..; exact o2.h a h g) | (show zm ..; exact o2.h a h g) | exact o2.h a h g):p:=h hit ho arg arg arg arg arg arg arg ⟨body⟩ ⟨o1⟩ ⟨o2⟩
theorem wcq' {M Mc:Env} {L Lc:Own} {P:zaQ->zi->za->Prop} {cc:Code} {tt:τ} {ks os:List Nat} {X:τ->zaQ×(List zd->Sts)} (_:Arg tt) (_:Arg ks) (_:Arg os) (_:Arg X) (hs:zrk M ks=Mc) (hl:picks L os=Lc) (r:zeW C T cc M L (zCc C (λt=>((X t).1,λg=>(((X t).2 g).1++Mc,((X t).2 g).2++Lc))) tt)) (out:∀ g,∀ fr h,St C (((X tt).2 g).1++Mc) (((X tt).2 g).2++Lc) fr h->P (X tt).1 fr h):zeW C T cc M L P:=
 zBd (λt=>((X t).1,λg=>(((X t).2 g).1++Mc,((X t).2 g).2++Lc))) r out
theorem gcx {q1:Prop} {q2:List zd->Prop} (tt:τ) (ks os:List Nat) (X:τ->zaQ×(List zd->Sts)) (r:q1) (out:∀ g,q2 g) (h:Arg tt->Arg ks->Arg os->Arg X->Hold q1->Hold (∀ g,q2 g)->p:=by
 intro tt ks os X r o;refine wcq' tt ks os X SEL PKS ?_ ?_
 . exact r.h
 . intro g;first | (show zeW ..; exact o.h g) | (show zm ..; exact o.h g) | exact o.h g):p:=h arg arg arg arg ⟨r⟩ ⟨out⟩
end
end Go.Ai.Sx