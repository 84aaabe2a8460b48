/- Iterators that own a box: a function that makes one,and ranging over it. -/
import Derived.Test.YtppebpagcocogaaGreatQ7
import Derived.KernelRfl
set_option linter.unusedSimpArgs false
set_option linter.unusedVariables false
set_option linter.unusedSectionVars false
namespace Go.Ai.Sx
theorem znA {A B:Own} {ks:List Nat}:picks (A++B) (ks.map (·+A.length))=picks B ks:=by
 induction A with
 | nil=>simp
 | cons a A ih =>
  have e:(ks.map (·+(a::A).length))=(ks.map (·+A.length)).map (·+1):=by rw [List.map_map]; rfl
  rw [e,List.cons_append,zev,ih]
theorem zhQ {B:Own}:∀ {A:Own},picks (A++B) (List.range A.length)=A
 | []=>rfl
 | x::A=>by
  rw [List.length_cons,List.range_succ_eq_map,List.cons_append];simp only [picks,List.getElem?_cons_zero];have e:(List.range A.length).map Nat.succ=(List.range A.length).map (·+1):=rfl;rw [e,zev,zhQ]
def zz8 (T:Tab) (g:FuncId) (as:List TE) (g2:FuncId) (es cs:List TE):Prop :=
 ∀ z h vs,z.Sub h->h.wm≤h.next->zJ z as vs->zjV T g vs h fun r h'=>∃ b us z',r=.ret (.func (.func g2) [] (.ptr b 0::us))∧Quiet h h'∧z.le z'∧z'.Sub h'∧(∀ b,b<h.next->z' b=z b)∧zJ z' cs us∧zfH ⟨z,h,[]⟩ z' h' [(.ptr b 0,.box es)]
def zAV (C:Ctx) (T:Tab) (res:List ResultVar) (g2:FuncId) (es cs:List TE) (e:zaS) (fr:zk) (h:ze):Prop :=
 (e=.normal∨e=.ret)∧∃ b us z,aresults T res fr h=some [.func (.func g2) [] (.ptr b 0::us)]∧C.z0.le z∧z.Sub h∧(∀ b,b<C.h0.next->b∉C.B0->z b=C.z0 b)∧zJ z cs us∧zfH C z h [(.ptr b 0,.box es)]∧Chg C h
section
variable {C:Ctx} {T:Tab} {d:Option (List Nat)} {ops rest:List Oper} {Γ:Env} {L:Own} {Q:zk->ze->Prop} {P:zaS->zk->ze->Prop} {o:Oper} {t:Nat} {z:Store} {fr:zk} {h:ze}
theorem zvG {e:zaS} {g2:FuncId} {es cs:List TE} {t b:Nat} (k:Nat) (he:e=.normal∨e=.ret) (hl:look Γ t=some (.val (zpe g2 [] (.raw (.ptr b 0)::cs)) ())) (hk:L[k]?=some (.ptr b 0,.box es)):∀ fr h,St C Γ L fr h->zAV C T [.tmp t] g2 es cs e fr h:=by
 intro fr h ⟨z,s⟩;have h1:=s.fr _ _ hl;simp only [TE.ok] at h1;obtain ⟨us,vs,ev,h2,h3⟩:=zqE h1;simp only [zJ] at h2;subst h2;simp only [zJ,TE.ok] at h3;obtain ⟨v,vs',rfl,rfl,h4⟩:=h3;refine ⟨he,b,vs',z,by simp only [aresults,aresult,ev],s.zle,s.sub,s.old,h4, ?_,s.chg⟩;have hp:picks L [k]=[(.ptr b 0,.box es)]:=by simp only [picks,hk]
 rw [← hp];exact ⟨fun p hp=>s.own.ok p (zbf hp),fun p hp=>s.own.out p (zbf hp),zb6 s.own.nodup (by simp)⟩
theorem zvH {g g2:FuncId} {F:Func} {c:Code} {as es cs:List TE} (hF:T.funcs.get g=some F) (hb:F.body=some c) (hn:Nat.blt F.ntmps as.length=false) (run:∀ C,C.B0=[]->zap C T c (entry 0 as) [] (zAV C T F.results.toList g2 es cs)):zz8 T g as g2 es cs:=by
 intro z h vs hsub hwm hok;refine zk3 hF hb (by rw [zbB hok]; exact hn) ?_;have s0:StZ ⟨z,h,[]⟩ (entry 0 as) [] z (zb9 0 vs .leaf) h :=
  { zle:=.refl _,sub:=hsub,old:=fun _ _ _=>rfl,fr:=ziA hok,own:=⟨fun p hp=>(nomatch hp),fun p hp=>(nomatch hp),List.nodup_nil⟩,chg:=⟨Nat.le_refl _,fun _ _ _=>rfl,fun _ m1 _ _=>m1,hwm⟩ }
 refine (run ⟨z,h,[]⟩ rfl _ _ ⟨z,s0⟩).mono fun e fr h' ⟨he,b,us,z',h1,h3,h4,h5,h6,h7,h8⟩=>⟨he,_,h1,b,us,z',rfl, ?_,h3,h4,fun b hb=>h5 b hb (fun q=>nomatch q),h6,h7⟩;exact ⟨h8.next,fun b hb=>h8.same b hb (fun q=>nomatch q),h8.wm _ (Nat.min_le_left _ _) (Nat.min_le_right _ _) (fun _ q=>nomatch q),fun _=>h8.ok⟩
theorem zvI {c:Call} {x:Operand} {g g2:FuncId} {as es cs:List TE} (hf:zz8 T g as g2 es cs) (hcst:T.consts.get g=none) (hw:Want ops Γ true o.guard) (ho:o.op=.call c) (hd:o.dst=some t) (hc:c.callee=.value x) (hx:Opd Γ x (.raw (.func (.func g) [] []))) (hvs:Opds Γ c.args.toList as)
    (r:∀ b,zo C T d ops rest ((t,.val (zpe g2 [] (.raw (.ptr b 0)::cs)) ())::Γ) ((.ptr b 0,.box es)::L) Q):zo C T d ops (o::rest) Γ L Q:=by
  have te:∀ {z':Store} {b:Nat} {us:List zi},zJ z' cs us->(TE.val (zpe g2 [] (.raw (.ptr b 0)::cs)) ()).ok z' (.func (.func g2) [] (.ptr b 0::us)):=fun hok=>by
    simp only [TE.ok];exact ⟨⟨_,_,rfl,by simp only [zJ],by simp only [zJ,TE.ok]; exact ⟨_,_,rfl,rfl,hok⟩⟩,rfl⟩
  cases d with
  | none =>
    intro fr h ⟨z,s⟩;have ha:aop T fr.op h o.op=some (.call (.func (.func g) [] []) (c.args.toList.map fr.op)):=by rw [ho]; simp only [aop,zcy,hc,hx.raw s.fr]
    simp only [wX,hw.ok s.fr,ha,hd,za3];refine zdl hcst ?_;rw [List.nil_append,List.append_nil];refine (hf z h _ s.sub s.chg.ok (hvs.ok s.fr)).mono fun r' h' ⟨b,us,z',e1,q,hz,hs,hold,hok,hown⟩=>⟨_,e1, ?_⟩;have s':=s.after q hz hs hold hown;exact r b _ _ ⟨z',s'.set (te hok)⟩
  | some ol =>
    intro z fr h i done s hr hok hdn;have ha:aop T fr.op h o.op=some (.call (.func (.func g) [] []) (c.args.toList.map fr.op)):=by rw [ho]; simp only [aop,zcy,hc,hx.raw s.fr]
    have hi:ops[i]?=some o:=by have:=congrArg (fun l=>l[0]?) hr; simpa using this
    have hlt:i<ops.length:=(List.getElem?_eq_some_iff.1 hi).1;have hr':ops.drop (i+1)=rest:=by have:=congrArg List.tail hr; simpa using this
    obtain ⟨c',fo,hoc,hcc,_⟩:=zcm ha;have n1:zcz o.op=false:=by rw [hoc]; simp only [zcz,hcc]
    have n2:zi3 o.op=false:=by rw [hoc]; simp only [zi3,hcc]
    have sl:StZ C Γ L z fr (lay h h.next):=s.low (Nat.le_refl _) (fun m _ m2 _=>Nat.le_trans m2 s.chg.next);refine zi1 (hw.ok s.fr) ha s.chg.ok (zeS hi hdn (zfU hok i hlt) rfl ⟨fun b hb=>(nomatch hb),fun b hb=>(nomatch hb)⟩ (fun q=>by rw [n1] at q; cases q) (fun q=>by rw [n2] at q; cases q) (fun _=>rfl) (fun t et y q=>by rw [hoc] at q; cases q) (fun t a q=>by rw [hoc] at q; cases q) (fun q=>by rw [hoc] at q; simp [zgD,hcc] at q)) ?_;refine zdl hcst ?_;rw [List.nil_append,List.append_nil];refine (hf z (lay h h.next) _ sl.sub (Nat.le_refl _) (hvs.ok s.fr)).mono fun r' h' ⟨b,us,z',e1,q,hz,hs,hold,hok',hown⟩=>⟨_,e1,q, ?_⟩;have s':=sl.after q hz hs hold hown;have s'':StZ C Γ ([(.ptr b 0,.box es)]++L) z' fr (lay h' (min h.wm h'.wm)):=s'.low (by have:=s'.chg.ok; omega) (fun m m1 m2 m3=>by have h1:=s.chg.wm m m1 m2 m3; have h2:=s'.chg.wm m m1 m2 m3; omega);have hn:=hdn.next (z':=z') (h':=lay h' (min h.wm h'.wm)) (v:=.func (.func g2) [] (.ptr b 0::us)) hi hz q.next [(i,⟨[],true,[],false⟩)] (fun p hp=>by
      rw [List.mem_singleton] at hp;subst hp;refine ⟨rfl,rfl,fun _=>rfl,fun q=>(by rw [hoc] at q; cases q),fun b hb=>(by simp at hb),fun q=>?_⟩;unfold zdQ at q;rw [n1,hoc] at q;simp [znn,zmf,hcc] at q) (fun hal=>(zhC hal ha).elim) (fun r q=>by rw [hoc] at q; cases q) (fun p _ t a q=>by rw [hoc] at q; cases q) (fun p _ q=>by rw [hoc] at q; simp [zgD,hcc] at q) (fun p _ t a y q=>by rw [hoc] at q; cases q)
    rw [hd,za3] at hn ⊢;exact r b z' _ _ (i+1) _ (s''.set (te hok')) hr' hok hn
theorem zrl {g:FuncId} {as:List TE} {L0:Own} {rs:List RE} {F:List zi->zi×Obj} {X:List zi->Own} (h:znt T g as L0 rs fun γ=>F γ::X γ):znt T g as L0 rs fun γ=>[F γ]:=fun z hp vs h1 h2 h3 h4 =>
 (h z hp vs h1 h2 h3 h4).mono fun _ _ ⟨us,z',γ,q1,q2,q3,q4,q5,q6,q7,q8⟩=>⟨us,z',γ,q1,q2,q3,q4,q5,q6,q7,by
  have e:picks (owns rs us++F γ::X γ) (List.range (owns rs us++[F γ]).length)=owns rs us++[F γ]:=by
   rw [show owns rs us++F γ::X γ=(owns rs us++[F γ])++X γ by simp];exact zhQ
  rw [← e];exact ⟨fun p hp=>q8.ok p (zbf hp),fun p hp=>q8.out p (zbf hp),zb6 q8.nodup List.nodup_range⟩⟩
theorem ztw {σ τ X:Type} {ins:X->List TE} {step:σ->X->Option (σ⊕τ)} (I:σ⊕τ->List zi->Own) (E:τ->Option Nat) {f:Operand} {params:Array Nat} {assign body:Code} {g:FuncId} {ps cs:List TE} {s0:σ} {r:σ⊕τ} {Lr Lx:Own} (γ0:List zi) (ks xs js:List Nat)
    (hcst:T.consts.get g=none) (hf:Opd Γ f (.val (zpe g ps cs) ())) (h0:picks L ks=I (.inl s0) γ0) (hx:picks L xs=Lx) (hr:picks L js=Lr) (hn:(ks++(xs++js)).Nodup) (hp:∀ x,(ins x).length=params.size)
    (hit:∀ (yv:zi) (K:σ⊕τ->List zi->Obj),ztg T yv ins step K->∀ γ,znt T g (ps++[.raw yv]++cs) ((yv,K (.inl s0) γ)::Lx) [] fun γ'=>[(yv,K r γ')])
    (hb:∀ s γ x r,step s x=some r->∀ C,zap C T assign (zti params.toList (ins x) Γ) (I (.inl s) γ) (zz2 C T body I E r))
    (out:∀ γ fr h,St C Γ (I r γ++Lr) fr h->P (zmp E r) fr h):zap C T (.rangeFunc f params assign body) Γ L P:=by
  subst hr hx;intro fr h ⟨z,s⟩;obtain ⟨us0,vs0,ev,hps,hcs⟩:=zqE (hf.val s.fr);have hpk:StZ C Γ (I (.inl s0) γ0++(picks L xs++picks L js)) z fr h:=by
    have e:picks L (ks++(xs++js))=I (.inl s0) γ0++(picks L xs++picks L js):=by rw [zff,zff,h0]
    rw [← e];exact { s with own:=⟨fun p hp=>s.own.ok p (zbf hp),fun p hp=>s.own.out p (zbf hp),zb6 s.own.nodup hn⟩ }
  generalize picks L js=Lr at hpk out;generalize picks L xs=Lx at hpk hit
  let B:zgQ:={ state:=.ready,pending:=none,fr:=fr,params:=params.toList,assign:=assign,body:=body }
  have cb:ztg T (.func (.yield h.next) [] []) ins step (zfG h.next B Γ I E):=zog (by simpa using hp) hb;have s2:StZ C Γ ((.func (.yield h.next) [] [],.cb [h.next] fun _ h'=>h'.get h.next=some (.loop B))::(I (.inl s0) γ0++(Lx++Lr))) z fr (h.push (.loop B)) :=
    hpk.pushOwn (.loop B) rfl ⟨by show (h.push (.loop B)).get h.next=_; rw [ze.get_push,if_pos rfl],fun _ _ h1 h1' _ hb q=>by
      have q:h1.get h.next=some (.loop B):=q;show h1'.get h.next=_;rw [hb _ (List.mem_singleton.2 rfl)]; exact q⟩
  have s3:StZ C Γ ((.func (.yield h.next) [] [],zfG h.next B Γ I E (.inl s0) γ0)::(Lx++Lr)) z fr (h.push (.loop B)):=by
    refine s2.repack (List.Perm.of_eq ?_) fun p hp'=>?_
    · rw [zal,zal];show (h.next::blks (I (.inl s0) γ0))++blks (Lx++Lr)=[h.next]++blks (I (.inl s0) γ0++(Lx++Lr));simp [blks]
    · rcases List.mem_cons.1 hp' with rfl | hp'
      · exact zjg (fun p hp=>s2.own.ok p (List.mem_cons_of_mem _ (List.mem_append_left _ hp))) (by rw [ze.get_push,if_pos rfl]; rfl) s.fr
      · exact s2.own.ok p (List.mem_cons_of_mem _ (List.mem_append_right _ hp'))
  let yo:zi×Obj:=(.func (.yield h.next) [] [],zfG h.next B Γ I E (.inl s0) γ0)
  have hks:picks ((yo::Lx)++Lr) (List.range (yo::Lx).length)=yo::Lx:=zhQ;have hjs:picks ((yo::Lx)++Lr) ((List.range Lr.length).map (·+(yo::Lx).length))=Lr:=by rw [znA,zjh]
  have hnd:(List.range (yo::Lx).length++(List.range Lr.length).map (·+(yo::Lx).length)).Nodup:=by
    refine List.nodup_append.2 ⟨List.nodup_range,List.Pairwise.map _ (fun a b q e=>q (by omega)) List.nodup_range,fun a ha b hb e=>?_⟩;obtain ⟨i,_,q⟩:=List.mem_map.1 hb;have:=List.mem_range.1 ha;omega
  have s3:StZ C Γ ((yo::Lx)++Lr) z fr (h.push (.loop B)):=s3;have hL:=s3.lent (ks:=List.range (yo::Lx).length) List.nodup_range;rw [hks] at hL;have hcall:=hit _ _ cb γ0 z (h.push (.loop B)) (us0++[.func (.yield h.next) [] []]++vs0) s3.sub s3.chg.ok (zdo (zdo hps (by simp [zJ,TE.ok])) hcs) hL;have hcall:=zdl (a:=us0) (b:=vs0) hcst hcall;obtain ⟨n,r',h2,hrun,us,z',γ,e1,hl,q,hz,hs,hold,hok,hown⟩:=hcall;have hus:us=[]:=List.length_eq_zero_iff.1 hl;subst hus;have s4:=s3.afterM (ks:=List.range (yo::Lx).length) (js:=(List.range Lr.length).map (·+(yo::Lx).length)) hnd (by rw [hks]; exact q) hz hs (by rw [hks]; exact hold) (by rw [hks]; exact hown);rw [hjs] at s4;have s4:StZ C Γ ((.func (.yield h.next) [] [],zfG h.next B Γ I E r γ)::Lr) z' fr h2:=s4;obtain ⟨⟨o1,o2,_⟩,_⟩:=s4.own.ok _ (List.mem_cons_self ..);obtain ⟨w1,w2,w3⟩:=s4.own.out _ (List.mem_cons_self ..) h.next (List.mem_cons_self ..);have hnd4:(h.next::(blks (I r γ)++blks Lr)).Nodup:=by
    have:=s4.own.nodup;rw [zal] at this;exact this
  have hblk:blks (I r γ++Lr)=blks (I r γ)++blks Lr:=by simp [blks]
  have s5:StZ C Γ (I r γ++Lr) z' fr h2:=by
    refine { s4 with own:=⟨fun p hp'=>?_,fun p hp' b hb'=>?_,by rw [hblk]; exact (List.nodup_cons.1 hnd4).2⟩ }
    · rcases List.mem_append.1 hp' with hp' | hp'
      · exact o1 p hp'
      · exact s4.own.ok p (List.mem_cons_of_mem _ hp')
    · rcases List.mem_append.1 hp' with hp' | hp'
      · exact s4.own.out _ (List.mem_cons_self ..) b (List.mem_cons_of_mem _ (zbd.2 ⟨p,hp',hb'⟩))
      · exact s4.own.out p (List.mem_cons_of_mem _ hp') b hb'
  have s6:∀ x,StZ C Γ (I r γ++Lr) z' fr (h2.set h.next x):=fun x=>s5.wild w1 w2 w3 (by rw [hblk]; exact (List.nodup_cons.1 hnd4).1) x;have hrun':acall T (aexec T n) (fr.op f) [.func (.yield h.next) [] []] (h.push (.loop { state:=.ready,pending:=none,fr:=fr,params:=params.toList,assign:=assign,body:=body }))=some (r',h2):=by rw [ev]; exact hrun
  subst e1;refine ⟨n+1,zmp E r,fr,h2.set h.next (.loop { zsw B E r with state:=.exhausted }), ?_,out γ fr _ ⟨z',s6 _⟩⟩;simp only [aexec,hrun',o2];cases r with
  | inl s'=>rfl
  | inr t' =>
    simp only [zsw,zmp];cases hE:E t'<;>rfl
end
end Go.Ai.Sx

/- Arrays that are written once: read where they lie. -/
namespace Go.Ai.Sx
section
variable {C:Ctx} {T:Tab} {d:Option (List Nat)} {ops rest:List Oper} {Γ:Env} {L:Own} {Q:zk->ze->Prop} {o:Oper} {t:Nat} {z:Store} {fr:zk} {h:ze}
theorem zkz {A:Type} {R:Rep A} {xs:List A} {b n:Nat} (k:Nat) (ts:List Nat) (hp:0<R.sz) (hn:0<n) {L':Own} (hk:L[k]?=some (.slice b 0 n R.sz (some n),.row R xs)) (hL:zdL L k=some L') (hts:zi6 Γ (.ptr b 0) ts):∀ z fr h,StZ C Γ L z fr h->∃ z',z.le z'∧StZ C (zfV ts (.val (zad (ziw n R)) xs) Γ) L' z' fr h:=by
 intro z fr h s;obtain ⟨z',hz,s',hr⟩:=s.freeze hk hL;refine ⟨z',hz,{ s' with fr:=zeu ?_ hts s'.fr }⟩;rcases hr.2 with ⟨q,_⟩ | ⟨b',off,cap,q,_⟩ | ⟨b',off,cap,cells,ro,q,h2,h3,h4,h5⟩
 ·cases q
 ·cases q; omega
 ·cases q;simp only [TE.ok];refine ⟨⟨_,rfl,b,0,cells,ro,rfl,h2,h3, ?_⟩,rfl⟩;have hl:((cells.drop 0).take (ziw xs.length R).sz).length=xs.length*R.sz:=by
   show ((cells.drop 0).take (xs.length*R.sz)).length=_;simp; omega
  have hpp:∀ i x,xs[i]?=some x->R.rel z' ((((cells.drop 0).take (xs.length*R.sz)).drop (i*R.sz)).take R.sz) x:=fun i x hi=>by
   have h6:=h5 i x hi;have hlt:=(List.getElem?_eq_some_iff.1 hi).1;rw [List.drop_zero,List.drop_take,List.take_take,Nat.min_eq_left]
   ·rwa [Nat.zero_add] at h6
   ·have:=Nat.mul_le_mul_right R.sz (show i+1≤xs.length by omega);rw [Nat.add_mul,Nat.one_mul] at this;omega
  exact ⟨rfl,hl,zhE hp hl hpp,hpp⟩
theorem zci {A:Type} {R:Rep A} {x y:Operand} {xs:List A} {at_ et:TypeId} {n:Nat} {kk:IntKind} {i:Int} {a:A} (har:Ar1 T at_ et n R) (hi:idx xs i=some a) (hw:Want ops Γ true o.guard) (ho:o.op=.indexAddr at_ x y) (hd:o.dst=some t)
    (hx:Opd Γ x (.val (zad (ziw n R)) xs)) (hy:Opd Γ y (.val (zj kk) i)) (r:zo C T d ops rest ((t,.val (zad R) a)::Γ) L Q):zo C T d ops (o::rest) Γ L Q:=by
  refine zaq (by rw [ho]; rfl) hw hd (fun z fr h s=>?_) r;obtain ⟨h0,h1,h2,h3⟩:=zeE hi;obtain ⟨b,off,cells,ro,e1,e2,e3,e4⟩:=zg3 (hx.val s.fr);obtain ⟨q1,q2,q3,q4⟩:=e4;have hlt:i.toNat<n:=by omega
  have hle:i.toNat*R.sz+R.sz≤n*R.sz:=by
    have:=Nat.mul_le_mul_right R.sz (show i.toNat+1≤n by omega);rwa [Nat.add_mul,Nat.one_mul] at this
  have e3:off+n*R.sz≤cells.length:=e3;refine ⟨.ptr b (off+i.toNat*R.sz), ?_, ?_⟩
  · rw [ho];simp only [aop,hy.int s.fr,e1,zcQ,har.und,har.sz];rw [if_pos (by exact ⟨h0,by omega⟩)];rfl
  · simp only [TE.ok];refine ⟨⟨_,rfl,b,_,cells,ro,rfl,e2,by omega, ?_⟩,rfl⟩;have:=q4 _ a h3;have hq:(((cells.drop off).take (n*R.sz)).drop (i.toNat*R.sz)).take R.sz=(cells.drop (off+i.toNat*R.sz)).take R.sz:=by
      rw [List.drop_take,List.take_take,List.drop_drop,Nat.min_eq_left (by omega)]
    exact hq▸this
end
end Go.Ai.Sx

/- Structs whose fields are filled in another order than they stand in. -/
namespace Go.Ai.Sx
section
variable {C:Ctx} {T:Tab} {d:Option (List Nat)} {ops rest:List Oper} {Γ:Env} {L:Own} {Q:zk->ze->Prop} {o:Oper} {t:Nat} {z:Store} {fr:zk} {h:ze}
end
end Go.Ai.Sx

/- Arrays of two in a box: a box's cells at a place told by a number. -/
namespace Go.Ai.Sx
theorem zyr {A:Type} {R:Rep A} {z:Store} {c:zi} {x:A} (h:R.rel z [c] x) (h1:R.sz=1) (ho:c.one=true):(ziw 2 R).rel z [c,c] [x,x]:=by
 refine ⟨rfl,by rw [h1]; rfl,by simp [ho],fun i y hi=>?_⟩;rw [h1,Nat.mul_one]
 match i,hi with
 | 0,hi=>cases hi; exact h
 | 1,hi=>cases hi; exact h
theorem zhR {A:Type} {R:Rep A} {a b:A} (h:R.agg=false):Cells (ziw 2 R) [a,b] [.val R a,.val R b]:=by
 have hs:=R.one h;intro z cs;have c1:=zb (R:=R) (a:=a) h z;have c2:=zb (R:=R) (a:=b) h z;constructor
 ·rintro ⟨_,h2,_,h4⟩
  rw [hs] at h2
  match cs,h2 with
  | [u,v],_ =>
   have e1:=h4 0 a rfl;have e2:=h4 1 b rfl;rw [hs] at e1 e2;have k1:=(c1 [u]).1 e1;have k2:=(c2 [v]).1 e2;exact zd7.2 ⟨[u],[v],rfl,k1,k2⟩
 ·intro hk;obtain ⟨x1,x2,rfl,k1,k2⟩:=zd7.1 (show zJ z ([.val R a]++[.val R b]) cs from hk);have r1:=(c1 _).2 k1;have r2:=(c2 _).2 k2;have l1:=R.len _ _ _ r1;have l2:=R.len _ _ _ r2;rw [hs] at l1 l2
  match x1,l1,x2,l2 with
  | [u],_,[v],_ =>
   refine ⟨rfl,by rw [hs]; rfl, ?_,fun i y hi=>?_⟩
   ·have o1:=R.ones _ _ _ r1;have o2:=R.ones _ _ _ r2;simp only [List.all_cons,List.all_nil,Bool.and_true] at o1 o2;simp [o1,o2]
   ·rw [hs,Nat.mul_one]
    match i,hi with
    | 0,hi=>cases hi; exact r1
    | 1,hi=>cases hi; exact r2
theorem ix2 {i:Int} {u:Unit} (h:idx [(),()] i=some u):i=0∨i=1:=by
 have:=zeE h;simp only [List.length_cons,List.length_nil] at this;omega
theorem zuJ {i:Int} {u:Unit} (h:idx [(),()] i=some u) {q n:Nat} (hq:q+1<n):q+i.toNat<n:=by
 have:=ix2 h;omega
section
variable {C:Ctx} {T:Tab} {d:Option (List Nat)} {ops rest:List Oper} {Γ:Env} {L:Own} {Q:zk->ze->Prop} {o:Oper} {t:Nat} {z:Store} {fr:zk} {h:ze}
theorem zrm {A:Type} {R:Rep A} {x y:Operand} {at_ et:TypeId} {kk:IntKind} {i:Int} {u:Unit} {b off:Nat} (har:Ar1 T at_ et 2 R) (hs:R.sz=1) (hi:idx [(),()] i=some u) (hw:Want ops Γ true o.guard) (ho:o.op=.indexAddr at_ x y) (hd:o.dst=some t)
    (hx:Opd Γ x (.raw (.ptr b off))) (hy:Opd Γ y (.val (zj kk) i)) (r:zo C T d ops rest ((t,.raw (.ptr b (off+i.toNat)))::Γ) L Q):zo C T d ops (o::rest) Γ L Q:=by
  refine zaq (by rw [ho]; rfl) hw hd (fun z fr h s=>?_) r;have h0:=ix2 hi;refine ⟨.ptr b (off+i.toNat), ?_,rfl⟩;rw [ho];simp only [aop,hy.int s.fr,hx.raw s.fr,zcQ,har.und,har.sz];rw [if_pos (by exact ⟨by omega,by omega⟩),hs,Nat.mul_one];rfl
theorem zmA {A:Type} {R:Rep A} {a:A} {et:TypeId} {x y:Operand} {b q:Nat} {es es':List TE} (k:Nat) (hsz:szT T et=some 1) (hk:L[k]?=some (.ptr b 0,.box es)) (hq:q<es.length) (he:es.set q (.val R a)=es') (hw:Want ops Γ true o.guard) (ho:o.op=.store et x y) (hd:o.dst=none) (hx:Opd Γ x (.raw (.ptr b q))) (hy:Opd Γ y (.val R a)) (hR:R.agg=false)
    {L':Own} (hL:zeK L k (.ptr b 0,.box es')=some L') (r:zo C T d ops rest Γ L' Q):zo C T d ops (o::rest) Γ L Q :=
  zoc k hsz hk hq hw ho hd hx hy hR (by rw [he]; exact hL) r
end
end Go.Ai.Sx

/- Steps that find their own evidence: the printed walks name only what cannot be found. -/
namespace Go.Ai.Sx
class iU (T:Tab) (t:TypeId) {A:outParam Type} (R:outParam (Rep A)):Prop where u:Und T t R
class iS (T:Tab) (st:TypeId) {A:outParam Type} (R:outParam (Rep A)) (et:outParam TypeId):Prop where s:Sl T st et R
class iF (T:Tab) (s i:Nat) {A B:outParam Type} (R:outParam (Rep A)) (S:outParam (Rep B)) (ft off:outParam Nat) (g:outParam (A->B)) (w:outParam (A->B->A)):Prop where
 f:Fld T s i ft off S.sz
 k:FOk R off S g w
 p:0<S.sz
class iY (T:Tab) (et:TypeId) {A:outParam Type} (R:outParam (Rep A)) (bytes:outParam Nat):Prop where y:Ty T et R bytes
class iZ (T:Tab) (et:TypeId) {A:outParam Type} (R:outParam (Rep A)) (x:outParam A):Prop where z:Zr T et R x
class iB (T:Tab) (t:TypeId) {A:outParam Type} (R:outParam (Rep A)) (zc:outParam (List zi)) (places:outParam (List (Nat×Nat))):Prop where
 b:Stt T t zc places
 a:R.agg=true
class iK (T:Tab) (t:TypeId) (k:outParam TypeDesc):Prop where k:T.und t=some k
class iA (T:Tab) (t:TypeId) {A:outParam Type} (R:outParam (Rep A)) (et n:outParam Nat):Prop where a:Ar1 T t et n R
class iE (T:Tab) (t:TypeId) {A:outParam Type} (R:outParam (Rep A)) (q:outParam (A->A->Bool)):Prop where
 e:SEq T t R q
 a:R.agg=true
class FI {α:Type} (T:Tab) (g:FuncId) (m:Option α) (as:outParam (List TE)) (rs:outParam (α->List RE)):Prop where ok:∀ o,m=some o->Fun T g as (rs o)
theorem fi {α:Type} {T:Tab} {g:FuncId} {m:Option α} {as:List TE} {rs:α->List RE} [h:FI T g m as rs] {o:α} (e:m=some o):Fun T g as (rs o):=h.ok o e
universe u
section
variable {A:Type u} {l:List A} {a b c e f g h i j:A}
theorem k0:(a::l)[0]?=some a:=rfl
theorem k1:(a::b::l)[1]?=some b:=rfl
theorem k2:(a::b::c::l)[2]?=some c:=rfl
theorem k3:(a::b::c::e::l)[3]?=some e:=rfl
theorem k4:(a::b::c::e::f::l)[4]?=some f:=rfl
theorem k5:(a::b::c::e::f::g::l)[5]?=some g:=rfl
theorem k6:(a::b::c::e::f::g::h::l)[6]?=some h:=rfl
theorem k7:(a::b::c::e::f::g::h::i::l)[7]?=some i:=rfl
theorem k8:(a::b::c::e::f::g::h::i::j::l)[8]?=some j:=rfl
end
section
variable {C:Ctx} {T:Tab} {d:Option (List Nat)} {ops rest:List Oper} {Γ:Env} {L:Own} {Q:zk->ze->Prop} {P:zaS->zk->ze->Prop} {e e':TE} {t i j:Nat} {x y z:Operand} {ty u u' et st:TypeId} {p:String} {af:Array Edge} {gd:Option (Nat×Bool)} {A B:Type} {R:Rep A} {S:Rep B} {k k':IntKind} {m n i':Int} {v:zi} {q:Bool} {a:A} {xs ys:List A} {c:Call}
abbrev vI (n:Int):TE:=.val (zj .i64) n
abbrev vB (b:Bool):TE:=.val zB b
theorem c1 {b:B} {fs:List TE} (h1:R.agg=false) (h2:Cells S b fs):Cells (zO R S) (a,b) (.val R a::fs):=za (zb h1) h2 rfl
theorem c3 {A B:Type} {R:Rep A} {S:Rep B} {x y:A} {b:B} {fs:List TE} (h:R.agg=false) (h2:Cells S b fs):Cells (zO (ziw 2 R) S) ([x,y],b) (.val R x::.val R y::fs):=za (zhR h) h2 rfl
theorem c2 {b:B} {es fs:List TE} (h1:Cells R a es) (h2:Cells S b fs):Cells (zO R S) (a,b) (es++fs):=za h1 h2 rfl
theorem gl1:(true==true)=true:=rfl
theorem gl0:(false==false)=true:=rfl
theorem gm1:(true==false)=false:=rfl
theorem gm0:(false==true)=false:=rfl
theorem EQ {p:Prop} (h:p:=by first | with_reducible assumption | assumption):p:=h
theorem EW {p:Prop} (h:p:=by first | exact .n rfl | (apply Want.g; rfl; rfl; first | (apply gt1; with_reducible assumption) | (apply gf0; with_reducible assumption) | with_reducible exact gl1 | with_reducible exact gl0)):p:=h
theorem EN {p:Prop} (h:p:=by first | exact .u rfl rfl rfl | (apply Want.g; rfl; rfl; first | (apply gf1; with_reducible assumption) | (apply gt0; with_reducible assumption) | with_reducible exact gm1 | with_reducible exact gm0)):p:=h
theorem EO {p:Prop} (h:p:=by first | exact .t rfl | exact .i (by decide) (by decide) | exact .b | exact .f | exact .nil):p:=h
theorem EM {p:Prop} (h:p:=by first | exact .t rfl | exact .i (by decide) (by decide) | exact .b | exact .f):p:=h
theorem EL {p:Prop} (h:p:=by first | exact k0 | exact k1 | exact k2 | exact k3 | exact k4 | exact k5 | exact k6 | exact k7 | exact k8):p:=h
theorem EC {p:Prop} (h:p:=by
 repeat first | exact zd | exact zb rfl | (apply c1; rfl) | (apply c3; rfl) | apply c2
 all_goals fail):p:=h
theorem EZ {p:Prop} (h:p:=by
 repeat first | exact zint | exact zbool | exact znil | exact zunit | exact zqX | exact zz4 | exact ⟨rfl,by decide,by decide⟩ | apply zpair | rfl
 all_goals fail):p:=h
theorem EB {p:Prop} (h:p:=by
 repeat first | exact .n rfl | (apply Bld.p; exact EO; rfl) | (apply Bld.z; intro _; exact EZ)
 all_goals fail):p:=h
theorem ES {p:Prop} (h:p:=by first | exact .n | exact .s EO):p:=h
theorem ER {p:Prop} (h:p:=by intro _ h; cases h<;>rfl):p:=h
theorem EA {p:Prop} (h:p:=by
 repeat first | exact .n | (apply Opds.c; exact EO) | (apply Elts.c; exact EO)
 all_goals fail):p:=h
theorem EH {p:Prop} (h:p:=by first | with_reducible assumption | with_reducible rfl):p:=h
theorem EG {p:Prop} (h:p:=by first | exact FOk.self | exact (inferInstanceAs (iF _ _ _ _ _ _ _ _ _)).k):p:=h
theorem wmv (h:Opd Γ x e) (w:Want ops Γ true gd) (r:zo C T d ops rest ((t,e)::Γ) L Q):zo C T d ops (⟨some t,.move x,ty,p,af,gd⟩::rest) Γ L Q:=zxT w rfl rfl h r
theorem wsg (h:Opd Γ x e) (w:Want ops Γ true gd) (r:zo C T d ops rest ((t,e)::Γ) L Q):zo C T d ops (⟨some t,.assign x,ty,p,af,gd⟩::rest) Γ L Q:=zC w rfl rfl h r
theorem wsk {o:Op} (w:Want ops Γ false (some (j,q))) (r:zo C T d ops rest ((t,.raw unit)::Γ) L Q):zo C T d ops (⟨some t,o,ty,p,af,some (j,q)⟩::rest) Γ L Q:=zxR w rfl r
theorem wsn {o:Op} (w:Want ops Γ false (some (j,q))) (r:zo C T d ops rest Γ L Q):zo C T d ops (⟨none,o,ty,p,af,some (j,q)⟩::rest) Γ L Q:=zvi w rfl r
theorem wld [hu:iU T et R] (h:Opd Γ x (.val (zad R) a)) (w:Want ops Γ true gd) (r:zo C T d ops rest ((t,.val R a)::Γ) L Q):zo C T d ops (⟨some t,.load et x,ty,p,af,gd⟩::rest) Γ L Q:=zxX hu.u w rfl rfl h r
theorem wfa {s ft off:Nat} {g:A->B} {f:A->B->A} [hf:iF T s i R S ft off g f] (h:Opd Γ x (.val (zad R) a)) (w:Want ops Γ true gd) (r:zo C T d ops rest ((t,.val (zad S) (g a))::Γ) L Q):zo C T d ops (⟨some t,.fieldAddr s x i,ty,p,af,gd⟩::rest) Γ L Q:=zBO hf.f hf.k hf.p w rfl rfl h r
theorem wfe {s ft off j' o0:Nat} {g:A->B} {f:A->B->A} [hf:iF T s i R S ft off g f] (h:Opd Γ x (.elt v j' o0)) (w:Want ops Γ true gd) (r:zo C T d ops rest ((t,.elt v j' (o0+off))::Γ) L Q):zo C T d ops (⟨some t,.fieldAddr s x i,ty,p,af,gd⟩::rest) Γ L Q:=zvm hf.f hf.p w rfl rfl h r
theorem wfr {s ft off b o0:Nat} {g:A->B} {f:A->B->A} [hf:iF T s i R S ft off g f] (h:Opd Γ x (.raw (.ptr b o0))) (w:Want ops Γ true gd) (r:zo C T d ops rest ((t,.raw (.ptr b (o0+off)))::Γ) L Q):zo C T d ops (⟨some t,.fieldAddr s x i,ty,p,af,gd⟩::rest) Γ L Q:=zvn hf.f hf.p w rfl rfl h r
theorem wfd {s ft off:Nat} {g:A->B} {f:A->B->A} [hf:iF T s i R S ft off g f] [hu:iU T ft S] (h:Opd Γ x (.val R a)) (w:Want ops Γ true gd) (hR:R.agg=true) (r:zo C T d ops rest ((t,.val S (g a))::Γ) L Q):zo C T d ops (⟨some t,.field s x i,ty,p,af,gd⟩::rest) Γ L Q:=zvp hf.f hu.u hR hf.k w rfl rfl h r
theorem war {op:BinOp} (hx:Opd Γ x (.val (zj k) m)) (hy:Opd Γ y (.val (zj k) n)) (ha:Ar k m n op i') (w:Want ops Γ true gd) (r:zo C T d ops rest ((t,.val (zj k) i')::Γ) L Q):zo C T d ops (⟨some t,.binOp op u x y u',ty,p,af,gd⟩::rest) Γ L Q:=zAP w rfl rfl hx hy ha r
theorem wdv (hx:Opd Γ x (.val (zj k) m)) (hy:Opd Γ y (.val (zj k) n)) (ha:zcV k m n=some i') (w:Want ops Γ true gd) (r:zo C T d ops rest ((t,.val (zj k) i')::Γ) L Q):zo C T d ops (⟨some t,.binOp .quo u x y u',ty,p,af,gd⟩::rest) Γ L Q:=zAP w rfl rfl hx hy (zta ha) r
theorem wrm (hx:Opd Γ x (.val (zj k) m)) (hy:Opd Γ y (.val (zj k) n)) (ha:zuC m n=some i') (w:Want ops Γ true gd) (r:zo C T d ops rest ((t,.val (zj k) i')::Γ) L Q):zo C T d ops (⟨some t,.binOp .rem u x y u',ty,p,af,gd⟩::rest) Γ L Q:=zya ha w rfl rfl hx hy r
theorem wsl (hx:Opd Γ x (.val (zj k) m)) (hy:Opd Γ y (.val (zj k') n)) (ha:zx9 k m n=some i') (w:Want ops Γ true gd) (r:zo C T d ops rest ((t,.val (zj k) i')::Γ) L Q):zo C T d ops (⟨some t,.binOp .shl u x y u',ty,p,af,gd⟩::rest) Γ L Q:=zyb ha w rfl rfl hx hy r
theorem wsr (hx:Opd Γ x (.val (zj k) m)) (hy:Opd Γ y (.val (zj k') n)) (ha:zlI k m n=some i') (w:Want ops Γ true gd) (r:zo C T d ops rest ((t,.val (zj k) i')::Γ) L Q):zo C T d ops (⟨some t,.binOp .shr u x y u',ty,p,af,gd⟩::rest) Γ L Q:=zyc ha w rfl rfl hx hy r
theorem wcm {op:BinOp} (hx:Opd Γ x (.val (zj k) m)) (hy:Opd Γ y (.val (zj k) n)) (ha:Cmp m n op q) (w:Want ops Γ true gd) (r:zo C T d ops rest ((t,.val zB q)::Γ) L Q):zo C T d ops (⟨some t,.binOp op u x y u',ty,p,af,gd⟩::rest) Γ L Q:=zzC w rfl rfl hx hy ha r
theorem wbe {b b':Bool} [hk:iK T u .bool] (hx:Opd Γ x (.val zB b)) (hy:Opd Γ y (.val zB b')) (w:Want ops Γ true gd) (r:zo C T d ops rest ((t,.val zB (b==b'))::Γ) L Q):zo C T d ops (⟨some t,.binOp .eql u x y u',ty,p,af,gd⟩::rest) Γ L Q:=zzG hk.k w rfl rfl hx hy r
theorem wbn {b b':Bool} [hk:iK T u .bool] (hx:Opd Γ x (.val zB b)) (hy:Opd Γ y (.val zB b')) (w:Want ops Γ true gd) (r:zo C T d ops rest ((t,.val zB (b !=b'))::Γ) L Q):zo C T d ops (⟨some t,.binOp .neq u x y u',ty,p,af,gd⟩::rest) Γ L Q:=zzH hk.k w rfl rfl hx hy r
theorem wse {a':A} {f:A->A->Bool} [hs:iE T u R f] (hx:Opd Γ x (.val R a)) (hy:Opd Γ y (.val R a')) (w:Want ops Γ true gd) (r:zo C T d ops rest ((t,.val zB (f a a'))::Γ) L Q):zo C T d ops (⟨some t,.binOp .eql u x y u',ty,p,af,gd⟩::rest) Γ L Q:=zzY hs.e hs.a w rfl rfl hx hy r
theorem wno (hx:Opd Γ x (.val zB q)) (w:Want ops Γ true gd) (r:zo C T d ops rest ((t,.val zB (!q))::Γ) L Q):zo C T d ops (⟨some t,.unOp .not u x,ty,p,af,gd⟩::rest) Γ L Q:=zzI w rfl rfl hx r
theorem wng (hx:Opd Γ x (.val (zj k) m)) (w:Want ops Γ true gd) (r:zo C T d ops rest ((t,.val (zj k) (k.wrap (0-m)))::Γ) L Q):zo C T d ops (⟨some t,.unOp .neg u x,ty,p,af,gd⟩::rest) Γ L Q:=zzJ w rfl rfl hx r
theorem wcv {ds:TypeDesc} [h1:iK T u ds] [h2:iK T u' (.int k')] (hx:Opd Γ x (.val (zj k) m)) (w:Want ops Γ true gd) (r:zo C T d ops rest ((t,.val (zj k') (k'.wrap m))::Γ) L Q):zo C T d ops (⟨some t,.convert u u' x,ty,p,af,gd⟩::rest) Γ L Q:=zxU (by rw [h1.k]; rfl) h2.k w rfl rfl hx r
theorem wp1 (hc:Opd Γ z (.val zB q)) (hb:q=true) (hx:Opd Γ x e) (w:Want ops Γ true gd) (r:zo C T d ops rest ((t,e)::Γ) L Q):zo C T d ops (⟨some t,.pick z x y,ty,p,af,gd⟩::rest) Γ L Q:=zzT hb w rfl rfl hc hx r
theorem wp0 (hc:Opd Γ z (.val zB q)) (hb:q=false) (hy:Opd Γ y e) (w:Want ops Γ true gd) (r:zo C T d ops rest ((t,e)::Γ) L Q):zo C T d ops (⟨some t,.pick z x y,ty,p,af,gd⟩::rest) Γ L Q:=zzU hb w rfl rfl hc hy r
theorem wln [hs:iS T st R et] (hx:Opd Γ x (.val (zg R) xs)) (w:Want ops Γ true gd) (r:zo C T d ops rest ((t,.val (zj .i64) (zz xs))::Γ) L Q):zo C T d ops (⟨some t,.call ⟨.builtin .len,#[x],#[st]⟩,ty,p,af,gd⟩::rest) Γ L Q:=zzK hs.s w rfl rfl rfl rfl rfl hx r
theorem wlo {κ:Nat} [hs:iS T st R et] (hx:Opd Γ x (.raw v)) (hk:L[κ]?=some (v,.row R xs)) (w:Want ops Γ true gd) (r:zo C T d ops rest ((t,.val (zj .i64) (zz xs))::Γ) L Q):zo C T d ops (⟨some t,.call ⟨.builtin .len,#[x],#[st]⟩,ty,p,af,gd⟩::rest) Γ L Q:=zxV κ hs.s w rfl rfl rfl rfl rfl hx hk r
theorem wmx {ats:Array TypeId} (hx:Opd Γ x (.val (zj k) m)) (hy:Opd Γ y (.val (zj k) n)) (w:Want ops Γ true gd) (r:zo C T d ops rest ((t,.val (zj k) (max m n))::Γ) L Q):zo C T d ops (⟨some t,.call ⟨.builtin .max,#[x,y],ats⟩,ty,p,af,gd⟩::rest) Γ L Q:=zzL w rfl rfl rfl rfl hx hy r
theorem wmn {ats:Array TypeId} (hx:Opd Γ x (.val (zj k) m)) (hy:Opd Γ y (.val (zj k) n)) (w:Want ops Γ true gd) (r:zo C T d ops rest ((t,.val (zj k) (min m n))::Γ) L Q):zo C T d ops (⟨some t,.call ⟨.builtin .min,#[x,y],ats⟩,ty,p,af,gd⟩::rest) Γ L Q:=zzM w rfl rfl rfl rfl hx hy r
theorem wix [hs:iS T st R et] (hx:Opd Γ x (.val (zg R) xs)) (hy:Opd Γ y (.val (zj k) m)) (hi:idx xs m=some a) (w:Want ops Γ true gd) (r:zo C T d ops rest ((t,.val (zad R) a)::Γ) L Q):zo C T d ops (⟨some t,.indexAddr st x y,ty,p,af,gd⟩::rest) Γ L Q:=zzN hs.s hi w rfl rfl hx hy r
theorem wio {κ:Nat} [hs:iS T st R et] (hx:Opd Γ x (.raw v)) (hk:L[κ]?=some (v,.row R xs)) (hy:Opd Γ y (.val (zj k) m)) (hi:idx xs m=some a) (w:Want ops Γ true gd) (r:zo C T d ops rest ((t,.elt v m.toNat 0)::Γ) L Q):zo C T d ops (⟨some t,.indexAddr st x y,ty,p,af,gd⟩::rest) Γ L Q:=zxW κ hs.s hi w rfl rfl hx hk hy r
theorem wia {κ n' b:Nat} [hs:iA T st R et n'] (hx:Opd Γ x (.raw (.ptr b 0))) (hk:L[κ]?=some (.slice b 0 n' R.sz (some n'),.row R xs)) (hy:Opd Γ y (.val (zj k) m)) (hi:idx xs m=some a) (w:Want ops Γ true gd) (r:zo C T d ops rest ((t,.elt (.slice b 0 n' R.sz (some n')) m.toNat 0)::Γ) L Q):zo C T d ops (⟨some t,.indexAddr st x y,ty,p,af,gd⟩::rest) Γ L Q:=zyf κ hs.a hk hi w rfl rfl hx hy r
theorem win {n':Nat} [hs:iA T st R et n'] (hx:Opd Γ x (.val (ziw n' R) xs)) (hy:Opd Γ y (.val (zj k) m)) (hi:idx xs m=some a) (w:Want ops Γ true gd) (r:zo C T d ops rest ((t,.val R a)::Γ) L Q):zo C T d ops (⟨some t,.index st x y,ty,p,af,gd⟩::rest) Γ L Q:=zvx hs.a hi w rfl rfl hx hy r
theorem wle {κ i0 off:Nat} {m0:Int} {g:A->B} {f:A->B->A} [hu:iU T et S] (hx:Opd Γ x (.elt v i0 off)) (hk:L[κ]?=some (v,.row R xs)) (hf:FOk R off S g f) (hi:idx xs m0=some a) (e0:m0.toNat=i0) (w:Want ops Γ true gd) (hl:Listed d ops rest) (r:zo C T d ops rest ((t,.val S (g a))::Γ) L Q):zo C T d ops (⟨some t,.load et x,ty,p,af,gd⟩::rest) Γ L Q:=znp κ hl hu.u hf (e0▸(zeE hi).2.2.2) w rfl rfl hx hk r
theorem wlb {κ b b':Nat} {es:List TE} [hu:iU T et R] (hx:Opd Γ x (.raw (.ptr b b'))) (hk:L[κ]?=some (.ptr b 0,.box es)) (he:es[b']?=some e) (hg:R.agg=false) (w:Want ops Γ true gd) (hl:Listed d ops rest) (r:zo C T d ops rest ((t,e)::Γ) L Q):zo C T d ops (⟨some t,.load et x,ty,p,af,gd⟩::rest) Γ L Q:=zvr κ hl (hg▸hu.u.agg) he w rfl rfl hx hk r
theorem wnk (hx:Opd Γ x (.val (zad R) a)) (w:Want ops Γ true gd) (r:zo C T d ops rest ((t,.val (zad R) a)::Γ) L Q):zo C T d ops (⟨some t,.nilCheck x,ty,p,af,gd⟩::rest) Γ L Q:=zvo w rfl rfl hx r
theorem wnr {b b':Nat} (hx:Opd Γ x (.raw (.ptr b b'))) (w:Want ops Γ true gd) (r:zo C T d ops rest ((t,.raw (.ptr b b'))::Γ) L Q):zo C T d ops (⟨some t,.nilCheck x,ty,p,af,gd⟩::rest) Γ L Q:=zs4 w rfl rfl hx r
theorem wex {es:List TE} (hx:Opd Γ x (.tup es)) (he:es[i]?=some e) (w:Want ops Γ true gd) (r:zo C T d ops rest ((t,e)::Γ) L Q):zo C T d ops (⟨some t,.extract x i,ty,p,af,gd⟩::rest) Γ L Q:=zzO he w rfl rfl hx r
theorem wbx (hx:Opd Γ x (.val R a)) (w:Want ops Γ true gd) (r:zo C T d ops rest ((t,.val (zad R) a)::Γ) L Q):zo C T d ops (⟨some t,.box et x,ty,p,af,gd⟩::rest) Γ L Q:=zzR w rfl rfl hx r
theorem wbs {bytes N:Nat} {parts:Array (Nat×Operand)} [hs:iS T st R et] [hy:iY T et R bytes] (he:Elts Γ R 0 parts.toList xs) (hn:xs.length=N) (hb:N*R.sz≤2 ^ 24) (w:Want ops Γ true gd) (r:zo C T d ops rest ((t,.val (zg R) xs)::Γ) L Q):zo C T d ops (⟨some t,.buildSlice st N parts,ty,p,af,gd⟩::rest) Γ L Q:=zBP hs.s hy.y w rfl rfl he hn hb r
theorem wmk {bytes:Nat} {x0:A} [hs:iS T st R et] [hy:iY T et R bytes] [hz:iZ T et R x0] (hl:Opd Γ x (.val (zj .i64) m)) (hc:Opd Γ y (.val (zj .i64) m)) (hm:mkO bytes m x0=some xs) (w:Want ops Γ true gd) (r:∀ v,zo C T d ops rest ((t,.raw v)::Γ) ((v,.row R xs)::L) Q):zo C T d ops (⟨some t,.makeSlice st x y,ty,p,af,gd⟩::rest) Γ L Q:=zBQ hs.s hy.y hz.z hm w rfl rfl hl hc r
theorem wap {κ bytes:Nat} {L':Own} {zs:List A} [hs:iS T st R et] [hy:iY T et R bytes] (hx:Opd Γ x (.raw v)) (hk:L[κ]?=some (v,.row R xs)) (hy':Opd Γ y (.val (zg R) ys)) (hap:zdJ bytes xs ys=some zs) (hL:zdL L κ=some L') (w:Want ops Γ true gd) (r:∀ v',zo C T d ops rest ((t,.raw v')::Γ) ((v',.row R zs)::L') Q) (hra:zfz d Γ L κ):zo C T d ops (⟨some t,.call ⟨.builtin .append,#[x,y],#[st,st]⟩,ty,p,af,gd⟩::rest) Γ L Q:=znr κ hs.s hy.y hap w rfl rfl rfl rfl rfl hx hk hy' hL r hra
theorem wso {κ i0 off:Nat} {m0:Int} {L':Own} {b:B} {g:A->B} {f:A->B->A} [hu:iU T et S] (hx:Opd Γ x (.elt v i0 off)) (hk:L[κ]?=some (v,.row R xs)) (hf:FOk R off S g f) (hy:Opd Γ y (.val S b)) (hi:idx xs m0=some a) (e0:m0.toNat=i0) (hL:zeK L κ (v,.row R (xs.set i0 (f a b)))=some L') (w:Want ops Γ true gd) (r:zo C T d ops rest Γ L' Q):zo C T d ops (⟨none,.store et x y,ty,p,af,gd⟩::rest) Γ L Q:=zs5 κ hu.u hf (e0▸(zeE hi).2.2.2) w rfl rfl hx hy hk hL r
theorem wsb {κ b b':Nat} {es:List TE} {L':Own} [hu:iU T et R] (hx:Opd Γ x (.raw (.ptr b b'))) (hk:L[κ]?=some (.ptr b 0,.box es)) (hy:Opd Γ y (.val R a)) (hg:R.agg=false) (h1:R.sz=1) (hq:b'<es.length) (hL:zeK L κ (.ptr b 0,.box (es.set b' (.val R a)))=some L') (w:Want ops Γ true gd) (r:zo C T d ops rest Γ L' Q):zo C T d ops (⟨none,.store et x y,ty,p,af,gd⟩::rest) Γ L Q:=zoc κ (h1▸hu.u.sz) hk hq w rfl rfl hx hy hg hL r
theorem wss {κ b:Nat} {es es':List TE} {L':Own} [hu:iU T et R] (hx:Opd Γ x (.raw (.ptr b 0))) (hk:L[κ]?=some (.ptr b 0,.box es)) (hy:Opd Γ y (.val R a)) (hc:Cells R a es') (hl:es'.length=es.length) (hL:zeK L κ (.ptr b 0,.box es')=some L') (w:Want ops Γ true gd) (r:zo C T d ops rest Γ L' Q):zo C T d ops (⟨none,.store et x y,ty,p,af,gd⟩::rest) Γ L Q:=zqx κ hu.u hk hc hl w rfl rfl hx hy hL r
theorem FL {p:Prop} (h:p:=by
 repeat first | exact ziz | exact zjc | exact zmn | apply zjd
 all_goals fail):p:=h
theorem EF {p:Prop} (h:p:=by
 repeat first | exact .n | (apply Flats.v; exact FL) | (apply Flats.r; exact FL)
 all_goals fail):p:=h
theorem ED {p:Prop} (h:p:=by
 repeat first | exact .n | (apply Lends.c; apply Lend.o; exact EO) | (apply Lends.c; apply Lend.r; exact EO; exact EL) | (apply Lends.c; apply Lend.b; exact EO; exact EL; exact EC)
 all_goals fail):p:=h
theorem wcl {az:Array Operand} {ats:Array TypeId} {α:Type} {g:FuncId} {mm:Option α} {as:List TE} {rs:α->List RE} {o:α} [hf:FI T g mm as rs] (hm:mm=some o) (hfl:Flats (rs o)) (ha:Lends Γ L az.toList as) (hcs:T.consts.get g=none) (w:Want ops Γ true gd) (r:RQ (rs o) L fun es L'=>zo C T d ops rest ((t,zpb es)::Γ) L' Q):zo C T d ops (⟨some t,.call ⟨.value (.func g),az,ats⟩,ty,p,af,gd⟩::rest) Γ L Q:=zhF (fi hm) hfl hcs w rfl rfl rfl .f ha r
theorem wcq {az:Array Operand} {ats:Array TypeId} {α:Type} {g:FuncId} {mm:Option α} {as:List TE} {rs:α->List RE} {o:α} [hf:FI T g mm as rs] (hm:mm=some o) (ha:Opds Γ az.toList as) (hcs:T.consts.get g=none) (w:Want ops Γ true gd) (r:RQ (rs o) L fun es L'=>zo C T d ops rest ((t,zpb es)::Γ) L' Q):zo C T d ops (⟨some t,.call ⟨.value (.func g),az,ats⟩,ty,p,af,gd⟩::rest) Γ L Q:=zuA (pre:=[]) (post:=[]) (vs:=[]) (fi hm) hcs w rfl rfl rfl .f ha r
theorem wne {a':A} [BEq A] [hs:iE T u R fun x y=>x==y] (hx:Opd Γ x (.val R a)) (hy:Opd Γ y (.val R a')) (w:Want ops Γ true gd) (r:zo C T d ops rest ((t,.val zB (a !=a'))::Γ) L Q):zo C T d ops (⟨some t,.binOp .neq u x y u',ty,p,af,gd⟩::rest) Γ L Q:=zzZ hs.e hs.a w rfl rfl hx hy r
theorem wbu {zc:List zi} {places:List (Nat×Nat)} {parts:Array (Nat×Operand)} [hb:iB T et R zc places] (h:Bld Γ zc places R 0 0 parts.toList a) (w:Want ops Γ true gd) (r:zo C T d ops rest ((t,.val R a)::Γ) L Q):zo C T d ops (⟨some t,.build et parts,ty,p,af,gd⟩::rest) Γ L Q:=zlc hb.b w rfl rfl hb.a h r
theorem wsc {lo hi:Option Operand} {i0 j0:Int} [hs:iS T st R et] (hx:Opd Γ x (.val (zg R) xs)) (hlo:Bnd Γ lo 0 i0) (hhi:Bnd Γ hi (zz xs) j0) (hn:slO xs i0 j0=some ys) (w:Want ops Γ true gd) (r:zo C T d ops rest ((t,.val (zg R) ys)::Γ) L Q):zo C T d ops (⟨some t,.slice st x lo hi none,ty,p,af,gd⟩::rest) Γ L Q:=zzV hs.s hn w rfl rfl hx hlo hhi r
theorem wcb {az:Array Operand} {ats:Array TypeId} {α β:Type} {g:FuncId} {mm:Option α} {as:List TE} {rs:α->List RE} {f:α->Option β} {o:β} (ho:Option.bind mm f=some o) [hf:FI T g mm as rs] (hfl:∀ y,Flats (rs y)) (ha:Lends Γ L az.toList as) (hcs:T.consts.get g=none) (w:Want ops Γ true gd) (r:∀ y,mm=some y->f y=some o->RQ (rs y) L fun es L'=>zo C T d ops rest ((t,zpb es)::Γ) L' Q):zo C T d ops (⟨some t,.call ⟨.value (.func g),az,ats⟩,ty,p,af,gd⟩::rest) Γ L Q:=by
 obtain ⟨y,h1,h2⟩:=bnd ho;exact zhF (fi h1) (hfl y) hcs w rfl rfl rfl .f ha (r y h1 h2)
theorem wco {az:Array Operand} {ats:Array TypeId} {α β:Type} {g:FuncId} {mm:Option α} {as:List TE} {rs:α->List RE} {f:α->Option β} {o:β} (ho:Option.bind mm f=some o) [hf:FI T g mm as rs] (ha:Opds Γ az.toList as) (hcs:T.consts.get g=none) (w:Want ops Γ true gd) (r:∀ y,mm=some y->f y=some o->RQ (rs y) L fun es L'=>zo C T d ops rest ((t,zpb es)::Γ) L' Q):zo C T d ops (⟨some t,.call ⟨.value (.func g),az,ats⟩,ty,p,af,gd⟩::rest) Γ L Q:=by
 obtain ⟨y,h1,h2⟩:=bnd ho;exact zuA (pre:=[]) (post:=[]) (vs:=[]) (fi h1) hcs w rfl rfl rfl .f ha (r y h1 h2)
theorem xmk {bytes:Nat} {x0:A} [hs:iS T st R et] [hy:iY T et R bytes] [hz:iZ T et R x0] (r:∀ v,zo C T d ops rest ((t,.raw v)::Γ) ((v,.row R xs)::L) Q) (hl:Opd Γ x (.val (zj .i64) m):=by exact EO) (hc:Opd Γ y (.val (zj .i64) m):=by exact EO) (hm:mkO bytes m x0=some xs:=by assumption) (w:Want ops Γ true gd:=by exact EW):zo C T d ops (⟨some t,.makeSlice st x y,ty,p,af,gd⟩::rest) Γ L Q:=wmk hl hc hm w r
theorem xap {κ bytes:Nat} {L':Own} {zs:List A} [hs:iS T st R et] [hy:iY T et R bytes] (r:∀ v',zo C T d ops rest ((t,.raw v')::Γ) ((v',.row R zs)::L') Q) (hx:Opd Γ x (.raw v):=by exact EO) (hk:L[κ]?=some (v,.row R xs):=by exact EL) (hy':Opd Γ y (.val (zg R) ys):=by exact EO) (hap:zdJ bytes xs ys=some zs:=by assumption) (hL:zdL L κ=some L':=by rfl) (w:Want ops Γ true gd:=by exact EW) (hra:zfz d Γ L κ:=by exact ROO):zo C T d ops (⟨some t,.call ⟨.builtin .append,#[x,y],#[st,st]⟩,ty,p,af,gd⟩::rest) Γ L Q:=wap hx hk hy' hap hL w r hra
theorem OKS {p:Prop} (h:p:=by
 intro _;repeat first | exact okn | apply okint | apply okbool | apply oknil | apply okraw | apply zyn
 all_goals fail):p:=h
theorem xal {zv:zi} {es:List TE} (hz:ze8 T et=some zv) (r:∀ b,zo C T d ops rest ((t,.raw (.ptr b 0))::Γ) ((.ptr b 0,.box es)::L) Q) (hes:∀ z,zJ z es zv.cells:=by exact OKS) (h1:zv.cells.all zi.one=true:=by rfl) (w:Want ops Γ true gd:=by exact EW):zo C T d ops (⟨some t,.alloc et,ty,p,af,gd⟩::rest) Γ L Q:=zvq hz hes h1 w rfl rfl r
theorem xbo {es:List TE} (r:∀ b,zo C T d ops rest ((t,.raw (.ptr b 0))::Γ) ((.ptr b 0,.box es)::L) Q) (hx:Opd Γ x (.val R a):=by exact EO) (hc:Cells R a es:=by exact EC) (w:Want ops Γ true gd:=by exact EW):zo C T d ops (⟨some t,.box et x,ty,p,af,gd⟩::rest) Γ L Q:=zx2 hc w rfl rfl hx r
theorem wrr {id:Nat} {os:Array Oper} {b:Code} (r:zo C T none os.toList os.toList Γ L (zAR C T b P .normal)):zap C T (.seq (.region id os false) b) Γ L P:=zvt (zg9 r)
theorem rgg {id:Nat} {os:Array Oper} (r:zo C T none os.toList os.toList Γ L (P .normal)):zap C T (.region id os false) Γ L P:=zg9 r
theorem wrn {id:Nat} {os:Array Oper} (h:(os.toList.all fun o=>o.guard.isNone)=true) (r:zo C T none os.toList os.toList Γ L (P .normal)):zap C T (.region id os false) Γ L P:=zg9 r
theorem wnq {b:Code} {P2:zaS->zk->ze->Prop} (r:zap C T b Γ L P2):zo C T d ops [] Γ L (fun fr h=>Run T b fr h P2):=zyd rfl r
theorem wct {α:Type} {b b':Code} {k1 k0:Option α} {o:α} (ho:cond q k1 k0=some o) (r1:q=true->k1=some o->zap C T b Γ L P) (r0:q=false->k0=some o->zap C T b' Γ L P) (h:Opd Γ x (.val zB q):=by exact EO):zap C T (.cond x b b') Γ L P :=
 zaI h (fun q=>r1 q (zBR ho q)) (fun q=>r0 q (zBS ho q))
theorem wbr {α:Type} {k1 k0:Option α} {o:α} {F:Prop} (ho:cond q k1 k0=some o) (r1:q=true->k1=some o->F) (r0:q=false->k0=some o->F):F:=by
 cases q with
 | true=>exact r1 rfl ho
 | false=>exact r0 rfl ho
theorem wbd {α β:Type} {m:Option α} {f:α->Option β} {o:β} {F:Prop} (ho:Option.bind m f=some o) (r:∀ a,m=some a->f a=some o->F):F:=by
 obtain ⟨a,h1,h2⟩:=bnd ho;exact r a h1 h2
theorem wal {α β γ:Type} {f:α->Option γ} {g:β->Option γ} {s:α⊕β} {o:γ} {F:α⊕β->Prop} (ho:alt f g s=some o) (r1:∀ a,f a=some o->F (.inl a)) (r0:∀ b,g b=some o->F (.inr b)):F s:=by
 cases s with
 | inl a=>exact r1 a ho
 | inr b=>exact r0 b ho
def zuK (Γ:Env):List Nat->Env
 | []=>[]
 | k::ks=>match look Γ k with
  | some e=>(k,e)::zuK Γ ks
  | none=>zuK Γ ks
theorem zz9:zuK Γ []=[]:=rfl
theorem zAa {k:Nat} {ks:List Nat} {Γ':Env} (h:look Γ k=some e) (r:zuK Γ ks=Γ'):zuK Γ (k::ks)=(k,e)::Γ':=by
 simp only [zuK,h,r]
theorem SEL {p:Prop} (h:p:=by
 repeat first | exact zz9 | (apply zAa; rfl)
 all_goals fail):p:=h
theorem ALL {p:Prop} (h:p:=by
 repeat first | exact trivial | refine ⟨rfl, ?_⟩
 all_goals fail):p:=h
theorem NE {p:Prop} (h:p:=by
 intro t;repeat first | exact (fun e=>by cases e) | rcases t with t | t
 all_goals fail):p:=h
theorem wlp {σ τ:Type} {cc:Code} {Γc:Env} {f:σ->Option (σ⊕τ)} {N:Nat} {s0:σ} {tt:τ} (hit:iter f N s0=some tt) (ks:List Nat) (V:σ->List zi->Sts) (X:τ->zaS×(List zi->Sts)) (g0:List zi) (hs:zuK Γ ks=Γc) (hin:∀ fr h,St C Γ L fr h->St C ((V s0 g0).1++Γc) (V s0 g0).2 fr h) (hne:∀ t,(X t).1≠.normal)
    (body:∀ s g r,f s=some r->zap C T cc ((V s g).1++Γc) (V s g).2 (zx6 C (fun s g=>((V s g).1++Γc,(V s g).2)) (fun t=>((X t).1,fun g=>(((X t).2 g).1++Γc,((X t).2 g).2))) r))
    (out:∀ g,∀ fr h,St C (((X tt).2 g).1++Γc) ((X tt).2 g).2 fr h->P (X tt).1 fr h):zap C T (.loop cc) Γ L P :=
  zx7 (fun s g=>((V s g).1++Γc,(V s g).2)) (fun t=>((X t).1,fun g=>(((X t).2 g).1++Γc,((X t).2 g).2))) f g0 hit hin hne body out
theorem wcx {τ:Type} {cc:Code} {Γc:Env} (tt:τ) (ks:List Nat) (X:τ->zaS×(List zi->Sts)) (hs:zuK Γ ks=Γc) (r:zap C T cc Γ L (zAS C (fun t=>((X t).1,fun g=>(((X t).2 g).1++Γc,((X t).2 g).2))) tt)) (out:∀ g,∀ fr h,St C (((X tt).2 g).1++Γc) ((X tt).2 g).2 fr h->P (X tt).1 fr h):zap C T cc Γ L P :=
 zzS (fun t=>((X t).1,fun g=>(((X t).2 g).1++Γc,((X t).2 g).2))) r out
theorem pk {Γ':Env} {L':Own} (is:List Nat) (q:znm Γ Γ':=by exact ALL) (hL:picks L is=L':=by rfl) (hn:is.Nodup:=by decide):∀ fr h,St C Γ L fr h->St C Γ' L' fr h:=fun _ _ s=>s.pick is q hL hn
theorem lf {α:Type} {a:α} {Γ':List zi->Env} {L':List zi->Own} (g:List zi) (is:List Nat) (q:znm Γ (Γ' g):=by exact ALL) (hL:picks L is=L' g:=by rfl) (hn:is.Nodup:=by decide):∀ fr h,St C Γ L fr h->a=a∧∃ g,St C (Γ' g) (L' g) fr h:=fun _ _ s=>⟨rfl,g,s.pick is q hL hn⟩
theorem fn {g:FuncId} {F:Func} {c:Code} {as:List TE} {rs:List RE} (run:∀ C,C.B0=[]->zap C T c (entry 0 as) [] (zzx C T F.results.toList rs)) (hF:T.funcs.get g=some F:=by rfl) (hb:F.body=some c:=by rfl) (hn:Nat.blt F.ntmps as.length=false:=by rfl):Fun T g as rs:=zx8 hF hb hn run
theorem nx {k:Nat}:(zaS.exit k)≠.normal:=fun e=>by cases e
theorem nr:zaS.ret≠.normal:=fun e=>by cases e
end
end Go.Ai.Sx

/- Runs of steps that need no word: found by trying. -/
namespace Go.Ai.Sx
structure Hold (q:Prop):Prop where h:q
theorem xcl {p q:Prop} {β:Type} {m:Option β} {o:β} (ho:m=some o) (r:q) (h:m=some o->Hold q->p:=by
 intro ho r;first
  | (apply wcb ho; intro _; exact EF; exact ED; rfl; exact EW; exact r.h)
  | (apply wco ho; exact EA; rfl; exact EW; exact r.h)):p:=h ho ⟨r⟩
theorem iu {T:Tab} {t:TypeId} {A:Type} {R:Rep A} [h:iU T t R]:Und T t R:=h.u
theorem st {p q:Prop} (r:q) (h:Hold q->p:=by
 intro r;first
  | (apply wmv; exact EM; exact EW; exact r.h)
  | (apply wsk; exact EN; exact r.h)
  | (apply wsg; exact EM; exact EW; exact r.h)
  | (apply wld; exact EO; exact EW; exact r.h)
  | (apply wfa; exact EO; exact EW; exact r.h)
  | (apply wp1; exact EO; exact EH; exact EO; exact EW; exact r.h)
  | (apply wp0; exact EO; exact EH; exact EO; exact EW; exact r.h)
  | (apply war; exact EO; exact EO; constructor; exact EW; exact r.h)
  | (apply wcm; exact EO; exact EO; constructor; exact EW; exact r.h)
  | (apply wln; exact EO; exact EW; exact r.h)
  | (apply wno; exact EO; exact EW; exact r.h)
  | (apply wex; exact EO; rfl; exact EW; exact r.h)
  | (apply wbx; exact EO; exact EW; exact r.h)
  | (apply wbs; exact EA; rfl; decide; exact EW; exact r.h)
  | (apply wlb; exact EO; exact EL; rfl; rfl; exact EW; exact ER; exact r.h)
  | (apply wle; exact EO; exact EL; exact FOk.self; exact EQ; rfl; exact EW; exact ER; exact r.h)
  | (apply wso; exact EO; exact EL; exact FOk.self; exact EO; exact EQ; rfl; rfl; exact EW; exact r.h)
  | (apply wss; exact EO; exact EL; exact EO; exact EC; rfl; rfl; exact EW; exact r.h)
  | (apply wsb; exact EO; exact EL; exact EO; rfl; rfl; exact Nat.le_of_ble_eq_true rfl; rfl; exact EW; exact r.h)
  | (apply wfr; exact EO; exact EW; exact r.h)
  | (apply wfe; exact EO; exact EW; exact r.h)
  | (apply wlo; exact EO; exact EL; exact EW; exact r.h)
  | (apply wnk; exact EO; exact EW; exact r.h)
  | (apply wnr; exact EO; exact EW; exact r.h)
  | (apply wfd; exact EO; exact EW; rfl; exact r.h)
  | (apply wsn; exact EN; exact r.h)
  | (apply wbe; exact EO; exact EO; exact EW; exact r.h)
  | (apply wbn; exact EO; exact EO; exact EW; exact r.h)
  | (apply wse; exact EO; exact EO; exact EW; exact r.h)
  | (apply wne; exact EO; exact EO; exact EW; exact r.h)
  | (apply wbu; exact EB; exact EW; exact r.h)
  | (apply wng; exact EO; exact EW; exact r.h)
  | (apply wcv; exact EO; exact EW; exact r.h)
  | (apply wmx; exact EO; exact EO; exact EW; exact r.h)
  | (apply wmn; exact EO; exact EO; exact EW; exact r.h)):p:=h ⟨r⟩
theorem sp {p q:Prop} (r:q) (h:Hold q->p:=by
 intro r;first
  | (apply wix; exact EO; exact EO; exact EQ; exact EW; exact r.h)
  | (apply wio; exact EO; exact EL; exact EO; exact EQ; exact EW; exact r.h)
  | (apply wdv; exact EO; exact EO; exact EQ; exact EW; exact r.h)
  | (apply wrm; exact EO; exact EO; exact EQ; exact EW; exact r.h)
  | (apply wsl; exact EO; exact EO; exact EQ; exact EW; exact r.h)
  | (apply wsr; exact EO; exact EO; exact EQ; exact EW; exact r.h)
  | (apply wsc; exact EO; exact ES; exact ES; exact EQ; exact EW; exact r.h)
  | (apply win; exact EO; exact EO; exact EQ; exact EW; exact r.h)
  | (apply wia; exact EO; exact EL; exact EO; exact EQ; exact EW; exact r.h)):p:=h ⟨r⟩
structure Cn (n:Nat):Prop where t:True
theorem Cn.dec {n:Nat} (_:Cn (n+1)):Cn n:=⟨trivial⟩
theorem run {p q:Prop} (n:Nat) (r:q) (h:Cn n->Hold q->p:=by
 intro hn r;repeat (replace hn:=hn.dec; first | refine st ?_ | refine sp ?_ | refine wnq ?_ | refine zvt ?_ | refine zg9 ?_ | refine zqz ?_ | refine zqB rfl ?_ | refine za9 [] (by kernel_rfl) ?_ | refine zqA rfl ?_ | refine zte rfl ?_)
 exact r.h):p:=h ⟨trivial⟩ ⟨r⟩
theorem RET {p:Prop} (h:p:=by
 repeat first | exact .n | (apply Rets.v; rfl) | (apply Rets.c; exact iu; rfl) | (apply Rets.r; rfl; exact EL)
 all_goals fail):p:=h
theorem w {α:Type} {m:Option α} {v:α} {p:Prop} (ho:m=some v) (h:m=some v->p:=by
 intro ho;repeat' first
  | refine st ?_
  | (apply wbd ho; intro _ _ ho; refine sp ?_)
  | (apply wcb ho; intro _; exact EF; exact ED; rfl; exact EW; intro _ _ ho)
  | (apply wco ho; exact EA; rfl; exact EW; intro _ _ ho)
  | refine wrr ?_ | refine wnq ?_ | refine zvt ?_ | refine zg9 ?_ | refine za9 [] (by kernel_rfl) ?_ | refine zqB rfl ?_ | refine zqz ?_ | refine zqA rfl ?_
  | refine wct ho (fun _ ho=>?_) (fun _ ho=>?_)
  | (cases ho; exact zah (lf [] []))
  | (cases ho; exact zas (lf [] []))
  | (cases ho; exact zaj (lf [] []))
  | (cases ho; exact zuB (lf [] []))
  | (cases ho; apply zaj; apply zF; exact .inr rfl; exact RET; decide)
  | (cases ho; apply zah; apply zF; exact .inl rfl; exact RET; decide)
  | refine wbr ho (fun _ ho=>?_) (fun _ ho=>?_)):p:=h ho
end Go.Ai.Sx
