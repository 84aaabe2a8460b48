/- Iterators that own a box: a function that makes one,and ranging over it. -/
import Derived.Test.YtcokdbcdlaofbaaGreatQ7
import Derived.KernelRfl
set_option linter.unusedSimpArgs false
set_option linter.unusedVariables false
set_option linter.unusedSectionVars false
namespace Go.Ai.Sx
theorem zs23 {A B:Own} {ks:List Nat}:picks (A ++ B) (ks.map (· + A.length)) = picks B ks:=by
 induction A with
 | nil=>simp
 | cons a A ih =>
  have e:(ks.map (· + (a :: A).length)) = (ks.map (· + A.length)).map (· + 1):=by rw [List.map_map]; rfl
  rw [e,List.cons_append,zi8,ih]
theorem zo13 {B:Own}:∀ {A:Own},picks (A ++ B) (List.range A.length) = A
 | []=>rfl
 | x :: A=>by
  rw [List.length_cons,List.range_succ_eq_map,List.cons_append]
  simp only [picks,List.getElem?_cons_zero]
  have e:(List.range A.length).map Nat.succ = (List.range A.length).map (· + 1):=rfl
  rw [e,zi8,zo13]
def FunB (T:Tab) (g:FuncId) (as:List TE) (g2:FuncId) (es cs:List TE):Prop :=
 ∀ z h vs,z.Sub h → h.wm ≤ h.next → okAll z as vs → CallF T g vs h fun r h'=>∃ b us z',r = .ret (.func (.func g2) [] (.ptr b 0 :: us)) ∧ Quiet h h' ∧ z.le z' ∧ z'.Sub h' ∧ (∀ b,b < h.next → z' b = z b) ∧ okAll z' cs us ∧ OwnOk ⟨z,h,[]⟩ z' h' [(.ptr b 0,.box es)]
def RetB (C:Ctx) (T:Tab) (res:List ResultVar) (g2:FuncId) (es cs:List TE) (e:AExit) (fr:AFrame) (h:AHeap):Prop :=
 (e = .normal ∨ e = .ret) ∧ ∃ b us z,aresults T res fr h = some [.func (.func g2) [] (.ptr b 0 :: us)] ∧ C.z0.le z ∧ z.Sub h ∧ (∀ b,b < C.h0.next → b ∉ C.B0 → z b = C.z0 b) ∧ okAll z cs us ∧ OwnOk C z h [(.ptr b 0,.box es)] ∧ Chg C h
section
variable {C:Ctx} {T:Tab} {d:Option (List Nat)} {ops rest:List Oper} {Γ:Env} {L:Own} {Q:AFrame → AHeap → Prop} {P:AExit → AFrame → AHeap → Prop} {o:Oper} {t:Nat} {z:Store} {fr:AFrame} {h:AHeap}
theorem zv37 {e:AExit} {g2:FuncId} {es cs:List TE} {t b:Nat} (k:Nat) (he:e = .normal ∨ e = .ret) (hl:look Γ t = some (.val (rClo g2 [] (.raw (.ptr b 0) :: cs)) ())) (hk:L[k]? = some (.ptr b 0,.box es)):∀ fr h,St C Γ L fr h → RetB C T [.tmp t] g2 es cs e fr h:=by
 intro fr h ⟨z,s⟩
 have h1:=s.fr _ _ hl
 simp only [TE.ok] at h1
 obtain ⟨us,vs,ev,h2,h3⟩:=zh29 h1
 simp only [okAll] at h2
 subst h2
 simp only [okAll,TE.ok] at h3
 obtain ⟨v,vs',rfl,rfl,h4⟩:=h3
 refine ⟨he,b,vs',z,by simp only [aresults,aresult,ev],s.zle,s.sub,s.old,h4, ?_,s.chg⟩
 have hp:picks L [k] = [(.ptr b 0,.box es)]:=by simp only [picks,hk]
 rw [← hp]
 exact ⟨fun p hp=>s.own.ok p (zi3 hp),fun p hp=>s.own.out p (zi3 hp),zv4 s.own.nodup (by simp)⟩
theorem zw37 {g g2:FuncId} {F:Func} {c:Code} {as es cs:List TE} (hF:T.funcs.get g = some F) (hb:F.body = some c) (hn:Nat.blt F.ntmps as.length = false) (run:∀ C,C.B0 = [] → SRun C T c (entry 0 as) [] (RetB C T F.results.toList g2 es cs)):FunB T g as g2 es cs:=by
 intro z h vs hsub hwm hok
 refine zf19 hF hb (by rw [zy3 hok]; exact hn) ?_
 have s0:StZ ⟨z,h,[]⟩ (entry 0 as) [] z (argFrame 0 vs .leaf) h :=
  { zle:=.refl _,sub:=hsub,old:=fun _ _ _=>rfl,fr:=zq14 hok,own:=⟨fun p hp=>(nomatch hp),fun p hp=>(nomatch hp),List.nodup_nil⟩,chg:=⟨Nat.le_refl _,fun _ _ _=>rfl,fun _ m1 _ _=>m1,hwm⟩ }
 refine (run ⟨z,h,[]⟩ rfl _ _ ⟨z,s0⟩).mono fun e fr h' ⟨he,b,us,z',h1,h3,h4,h5,h6,h7,h8⟩=>⟨he,_,h1,b,us,z',rfl, ?_,h3,h4,fun b hb=>h5 b hb (fun q=>nomatch q),h6,h7⟩
 exact ⟨h8.next,fun b hb=>h8.same b hb (fun q=>nomatch q),h8.wm _ (Nat.min_le_left _ _) (Nat.min_le_right _ _) (fun _ q=>nomatch q),fun _=>h8.ok⟩
theorem zg30 {c:Call} {x:Operand} {g g2:FuncId} {as es cs:List TE} (hf:FunB T g as g2 es cs) (hcst:T.consts.get g = none) (hw:Want ops Γ true o.guard) (ho:o.op = .call c) (hd:o.dst = some t) (hc:c.callee = .value x) (hx:Opd Γ x (.raw (.func (.func g) [] []))) (hvs:Opds Γ c.args.toList as)
    (r:∀ b,SOps C T d ops rest ((t,.val (rClo g2 [] (.raw (.ptr b 0) :: cs)) ()) :: Γ) ((.ptr b 0,.box es) :: L) Q):SOps C T d ops (o :: rest) Γ L Q:=by
  have te:∀ {z':Store} {b:Nat} {us:List AVal},okAll z' cs us → (TE.val (rClo g2 [] (.raw (.ptr b 0) :: cs)) ()).ok z' (.func (.func g2) [] (.ptr b 0 :: us)):=fun hok=>by
    simp only [TE.ok]
    exact ⟨⟨_,_,rfl,by simp only [okAll],by simp only [okAll,TE.ok]; exact ⟨_,_,rfl,rfl,hok⟩⟩,rfl⟩
  cases d with
  | none =>
    intro fr h ⟨z,s⟩
    have ha:aop T fr.op h o.op = some (.call (.func (.func g) [] []) (c.args.toList.map fr.op)):=by rw [ho]; simp only [aop,opCall,hc,hx.raw s.fr]
    simp only [wX,hw.ok s.fr,ha,hd,zc3]
    refine zx6 hcst ?_
    rw [List.nil_append,List.append_nil]
    refine (hf z h _ s.sub s.chg.ok (hvs.ok s.fr)).mono fun r' h' ⟨b,us,z',e1,q,hz,hs,hold,hok,hown⟩=>⟨_,e1, ?_⟩
    have s':=s.after q hz hs hold hown
    exact r b _ _ ⟨z',s'.set (te hok)⟩
  | some ol =>
    intro z fr h i done s hr hok hdn
    have ha:aop T fr.op h o.op = some (.call (.func (.func g) [] []) (c.args.toList.map fr.op)):=by rw [ho]; simp only [aop,opCall,hc,hx.raw s.fr]
    have hi:ops[i]? = some o:=by have:=congrArg (fun l=>l[0]?) hr; simpa using this
    have hlt:i < ops.length:=(List.getElem?_eq_some_iff.1 hi).1
    have hr':ops.drop (i + 1) = rest:=by have:=congrArg List.tail hr; simpa using this
    obtain ⟨c',fo,hoc,hcc,_⟩:=zg5 ha
    have n1:noFoot o.op = false:=by rw [hoc]; simp only [noFoot,hcc]
    have n2:ownWr o.op = false:=by rw [hoc]; simp only [ownWr,hcc]
    have sl:StZ C Γ L z fr (lay h h.next):=s.low (Nat.le_refl _) (fun m _ m2 _=>Nat.le_trans m2 s.chg.next)
    refine zk15 (hw.ok s.fr) ha s.chg.ok (zs8 hi hdn (zf10 hok i hlt) rfl ⟨fun b hb=>(nomatch hb),fun b hb=>(nomatch hb)⟩ (fun q=>by rw [n1] at q; cases q) (fun q=>by rw [n2] at q; cases q) (fun _=>rfl) (fun t et y q=>by rw [hoc] at q; cases q) (fun t a q=>by rw [hoc] at q; cases q) (fun q=>by rw [hoc] at q; simp [isApp,hcc] at q)) ?_
    refine zx6 hcst ?_
    rw [List.nil_append,List.append_nil]
    refine (hf z (lay h h.next) _ sl.sub (Nat.le_refl _) (hvs.ok s.fr)).mono fun r' h' ⟨b,us,z',e1,q,hz,hs,hold,hok',hown⟩=>⟨_,e1,q, ?_⟩
    have s':=sl.after q hz hs hold hown
    have s'':StZ C Γ ([(.ptr b 0,.box es)] ++ L) z' fr (lay h' (min h.wm h'.wm)):=s'.low (by have:=s'.chg.ok; omega) (fun m m1 m2 m3=>by have h1:=s.chg.wm m m1 m2 m3; have h2:=s'.chg.wm m m1 m2 m3; omega)
    have hn:=hdn.next (z':=z') (h':=lay h' (min h.wm h'.wm)) (v:=.func (.func g2) [] (.ptr b 0 :: us)) hi hz q.next [(i,⟨[],true,[],false⟩)] (fun p hp=>by
      rw [List.mem_singleton] at hp
      subst hp
      refine ⟨rfl,rfl,fun _=>rfl,fun q=>(by rw [hoc] at q; cases q),fun b hb=>(by simp at hb),fun q=>?_⟩
      unfold quietRd at q
      rw [n1,hoc] at q
      simp [isLen,isLoad,hcc] at q) (fun hal=>(zb13 hal ha).elim) (fun r q=>by rw [hoc] at q; cases q) (fun p _ t a q=>by rw [hoc] at q; cases q) (fun p _ q=>by rw [hoc] at q; simp [isApp,hcc] at q) (fun p _ t a y q=>by rw [hoc] at q; cases q)
    rw [hd,zc3] at hn ⊢
    exact r b z' _ _ (i + 1) _ (s''.set (te hok')) hr' hok hn
theorem zn21 {g:FuncId} {as:List TE} {L0:Own} {rs:List RE} {F:List AVal → AVal × Obj} {X:List AVal → Own} (h:FunM T g as L0 rs fun γ=>F γ :: X γ):FunM T g as L0 rs fun γ=>[F γ]:=fun z hp vs h1 h2 h3 h4 =>
 (h z hp vs h1 h2 h3 h4).mono fun _ _ ⟨us,z',γ,q1,q2,q3,q4,q5,q6,q7,q8⟩=>⟨us,z',γ,q1,q2,q3,q4,q5,q6,q7,by
  have e:picks (owns rs us ++ F γ :: X γ) (List.range (owns rs us ++ [F γ]).length) = owns rs us ++ [F γ]:=by
   rw [show owns rs us ++ F γ :: X γ = (owns rs us ++ [F γ]) ++ X γ by simp]
   exact zo13
  rw [← e]
  exact ⟨fun p hp=>q8.ok p (zi3 hp),fun p hp=>q8.out p (zi3 hp),zv4 q8.nodup List.nodup_range⟩⟩
theorem zx24 {σ τ X:Type} {ins:X → List TE} {step:σ → X → Option (σ ⊕ τ)} (I:σ ⊕ τ → List AVal → Own) (E:τ → Option Nat) {f:Operand} {params:Array Nat} {assign body:Code} {g:FuncId} {ps cs:List TE} {s0:σ} {r:σ ⊕ τ} {Lr Lx:Own} (γ0:List AVal) (ks xs js:List Nat)
    (hcst:T.consts.get g = none) (hf:Opd Γ f (.val (rClo g ps cs) ())) (h0:picks L ks = I (.inl s0) γ0) (hx:picks L xs = Lx) (hr:picks L js = Lr) (hn:(ks ++ (xs ++ js)).Nodup) (hp:∀ x,(ins x).length = params.size)
    (hit:∀ (yv:AVal) (K:σ ⊕ τ → List AVal → Obj),CbAt T yv ins step K → ∀ γ,FunM T g (ps ++ [.raw yv] ++ cs) ((yv,K (.inl s0) γ) :: Lx) [] fun γ'=>[(yv,K r γ')])
    (hb:∀ s γ x r,step s x = some r → ∀ C,SRun C T assign (parE params.toList (ins x) Γ) (I (.inl s) γ) (AsgP C T body I E r))
    (out:∀ γ fr h,St C Γ (I r γ ++ Lr) fr h → P (endOf E r) fr h):SRun C T (.rangeFunc f params assign body) Γ L P:=by
  subst hr hx
  intro fr h ⟨z,s⟩
  obtain ⟨us0,vs0,ev,hps,hcs⟩:=zh29 (hf.val s.fr)
  have hpk:StZ C Γ (I (.inl s0) γ0 ++ (picks L xs ++ picks L js)) z fr h:=by
    have e:picks L (ks ++ (xs ++ js)) = I (.inl s0) γ0 ++ (picks L xs ++ picks L js):=by rw [zh9,zh9,h0]
    rw [← e]
    exact { s with own:=⟨fun p hp=>s.own.ok p (zi3 hp),fun p hp=>s.own.out p (zi3 hp),zv4 s.own.nodup hn⟩ }
  generalize picks L js = Lr at hpk out
  generalize picks L xs = Lx at hpk hit
  let B:ALoop:={ state:=.ready,pending:=none,fr:=fr,params:=params.toList,assign:=assign,body:=body }
  have cb:CbAt T (.func (.yield h.next) [] []) ins step (rangeK h.next B Γ I E):=zr24 (by simpa using hp) hb
  have s2:StZ C Γ ((.func (.yield h.next) [] [],.cb [h.next] fun _ h'=>h'.get h.next = some (.loop B)) :: (I (.inl s0) γ0 ++ (Lx ++ Lr))) z fr (h.push (.loop B)) :=
    hpk.pushOwn (.loop B) rfl ⟨by show (h.push (.loop B)).get h.next = _; rw [AHeap.get_push,if_pos rfl],fun _ _ h1 h1' _ hb q=>by
      have q:h1.get h.next = some (.loop B):=q
      show h1'.get h.next = _
      rw [hb _ (List.mem_singleton.2 rfl)]; exact q⟩
  have s3:StZ C Γ ((.func (.yield h.next) [] [],rangeK h.next B Γ I E (.inl s0) γ0) :: (Lx ++ Lr)) z fr (h.push (.loop B)):=by
    refine s2.repack (List.Perm.of_eq ?_) fun p hp'=>?_
    · rw [zm1,zm1]
      show (h.next :: blks (I (.inl s0) γ0)) ++ blks (Lx ++ Lr) = [h.next] ++ blks (I (.inl s0) γ0 ++ (Lx ++ Lr))
      simp [blks]
    · rcases List.mem_cons.1 hp' with rfl | hp'
      · exact zw15 (fun p hp=>s2.own.ok p (List.mem_cons_of_mem _ (List.mem_append_left _ hp))) (by rw [AHeap.get_push,if_pos rfl]; rfl) s.fr
      · exact s2.own.ok p (List.mem_cons_of_mem _ (List.mem_append_right _ hp'))
  let yo:AVal × Obj:=(.func (.yield h.next) [] [],rangeK h.next B Γ I E (.inl s0) γ0)
  have hks:picks ((yo :: Lx) ++ Lr) (List.range (yo :: Lx).length) = yo :: Lx:=zo13
  have hjs:picks ((yo :: Lx) ++ Lr) ((List.range Lr.length).map (· + (yo :: Lx).length)) = Lr:=by rw [zs23,zx15]
  have hnd:(List.range (yo :: Lx).length ++ (List.range Lr.length).map (· + (yo :: Lx).length)).Nodup:=by
    refine List.nodup_append.2 ⟨List.nodup_range,List.Pairwise.map _ (fun a b q e=>q (by omega)) List.nodup_range,fun a ha b hb e=>?_⟩
    obtain ⟨i,_,q⟩:=List.mem_map.1 hb
    have:=List.mem_range.1 ha
    omega
  have s3:StZ C Γ ((yo :: Lx) ++ Lr) z fr (h.push (.loop B)):=s3
  have hL:=s3.lent (ks:=List.range (yo :: Lx).length) List.nodup_range
  rw [hks] at hL
  have hcall:=hit _ _ cb γ0 z (h.push (.loop B)) (us0 ++ [.func (.yield h.next) [] []] ++ vs0) s3.sub s3.chg.ok (za7 (za7 hps (by simp [okAll,TE.ok])) hcs) hL
  have hcall:=zx6 (a:=us0) (b:=vs0) hcst hcall
  obtain ⟨n,r',h2,hrun,us,z',γ,e1,hl,q,hz,hs,hold,hok,hown⟩:=hcall
  have hus:us = []:=List.length_eq_zero_iff.1 hl
  subst hus
  have s4:=s3.afterM (ks:=List.range (yo :: Lx).length) (js:=(List.range Lr.length).map (· + (yo :: Lx).length)) hnd (by rw [hks]; exact q) hz hs (by rw [hks]; exact hold) (by rw [hks]; exact hown)
  rw [hjs] at s4
  have s4:StZ C Γ ((.func (.yield h.next) [] [],rangeK h.next B Γ I E r γ) :: Lr) z' fr h2:=s4
  obtain ⟨⟨o1,o2,_⟩,_⟩:=s4.own.ok _ (List.mem_cons_self ..)
  obtain ⟨w1,w2,w3⟩:=s4.own.out _ (List.mem_cons_self ..) h.next (List.mem_cons_self ..)
  have hnd4:(h.next :: (blks (I r γ) ++ blks Lr)).Nodup:=by
    have:=s4.own.nodup
    rw [zm1] at this
    exact this
  have hblk:blks (I r γ ++ Lr) = blks (I r γ) ++ blks Lr:=by simp [blks]
  have s5:StZ C Γ (I r γ ++ Lr) z' fr h2:=by
    refine { s4 with own:=⟨fun p hp'=>?_,fun p hp' b hb'=>?_,by rw [hblk]; exact (List.nodup_cons.1 hnd4).2⟩ }
    · rcases List.mem_append.1 hp' with hp' | hp'
      · exact o1 p hp'
      · exact s4.own.ok p (List.mem_cons_of_mem _ hp')
    · rcases List.mem_append.1 hp' with hp' | hp'
      · exact s4.own.out _ (List.mem_cons_self ..) b (List.mem_cons_of_mem _ (zg3.2 ⟨p,hp',hb'⟩))
      · exact s4.own.out p (List.mem_cons_of_mem _ hp') b hb'
  have s6:∀ x,StZ C Γ (I r γ ++ Lr) z' fr (h2.set h.next x):=fun x=>s5.wild w1 w2 w3 (by rw [hblk]; exact (List.nodup_cons.1 hnd4).1) x
  have hrun':acall T (aexec T n) (fr.op f) [.func (.yield h.next) [] []] (h.push (.loop { state:=.ready,pending:=none,fr:=fr,params:=params.toList,assign:=assign,body:=body })) = some (r',h2):=by rw [ev]; exact hrun
  subst e1
  refine ⟨n + 1,endOf E r,fr,h2.set h.next (.loop { stOf B E r with state:=.exhausted }), ?_,out γ fr _ ⟨z',s6 _⟩⟩
  simp only [aexec,hrun',o2]
  cases r with
  | inl s'=>rfl
  | inr t' =>
    simp only [stOf,endOf]
    cases hE:E t' <;> rfl
end
end Go.Ai.Sx

/- Arrays that are written once: read where they lie. -/
namespace Go.Ai.Sx
section
variable {C:Ctx} {T:Tab} {d:Option (List Nat)} {ops rest:List Oper} {Γ:Env} {L:Own} {Q:AFrame → AHeap → Prop} {o:Oper} {t:Nat} {z:Store} {fr:AFrame} {h:AHeap}
theorem zd18 {A:Type} {R:Rep A} {xs:List A} {b n:Nat} (k:Nat) (ts:List Nat) (hp:0 < R.sz) (hn:0 < n) {L':Own} (hk:L[k]? = some (.slice b 0 n R.sz (some n),.row R xs)) (hL:dropAt L k = some L') (hts:AllRaw Γ (.ptr b 0) ts):∀ z fr h,StZ C Γ L z fr h → ∃ z',z.le z' ∧ StZ C (holdAll ts (.val (rPtr (rArr n R)) xs) Γ) L' z' fr h:=by
 intro z fr h s
 obtain ⟨z',hz,s',hr⟩:=s.freeze hk hL
 refine ⟨z',hz,{ s' with fr:=ze9 ?_ hts s'.fr }⟩
 rcases hr.2 with ⟨q,_⟩ | ⟨b',off,cap,q,_⟩ | ⟨b',off,cap,cells,ro,q,h2,h3,h4,h5⟩
 ·cases q
 ·cases q; omega
 ·cases q
  simp only [TE.ok]
  refine ⟨⟨_,rfl,b,0,cells,ro,rfl,h2,h3, ?_⟩,rfl⟩
  have hl:((cells.drop 0).take (rArr xs.length R).sz).length = xs.length * R.sz:=by
   show ((cells.drop 0).take (xs.length * R.sz)).length = _
   simp; omega
  have hpp:∀ i x,xs[i]? = some x → R.rel z' ((((cells.drop 0).take (xs.length * R.sz)).drop (i * R.sz)).take R.sz) x:=fun i x hi=>by
   have h6:=h5 i x hi
   have hlt:=(List.getElem?_eq_some_iff.1 hi).1
   rw [List.drop_zero,List.drop_take,List.take_take,Nat.min_eq_left]
   ·rwa [Nat.zero_add] at h6
   ·have:=Nat.mul_le_mul_right R.sz (show i + 1 ≤ xs.length by omega)
    rw [Nat.add_mul,Nat.one_mul] at this
    omega
  exact ⟨rfl,hl,zd13 hp hl hpp,hpp⟩
theorem za6 {A:Type} {R:Rep A} {x y:Operand} {xs:List A} {at_ et:TypeId} {n:Nat} {kk:IntKind} {i:Int} {a:A} (har:Ar1 T at_ et n R) (hi:idx xs i = some a) (hw:Want ops Γ true o.guard) (ho:o.op = .indexAddr at_ x y) (hd:o.dst = some t)
    (hx:Opd Γ x (.val (rPtr (rArr n R)) xs)) (hy:Opd Γ y (.val (rInt kk) i)) (r:SOps C T d ops rest ((t,.val (rPtr R) a) :: Γ) L Q):SOps C T d ops (o :: rest) Γ L Q:=by
  refine zy1 (by rw [ho]; rfl) hw hd (fun z fr h s=>?_) r
  obtain ⟨h0,h1,h2,h3⟩:=zl8 hi
  obtain ⟨b,off,cells,ro,e1,e2,e3,e4⟩:=zb12 (hx.val s.fr)
  obtain ⟨q1,q2,q3,q4⟩:=e4
  have hlt:i.toNat < n:=by omega
  have hle:i.toNat * R.sz + R.sz ≤ n * R.sz:=by
    have:=Nat.mul_le_mul_right R.sz (show i.toNat + 1 ≤ n by omega)
    rwa [Nat.add_mul,Nat.one_mul] at this
  have e3:off + n * R.sz ≤ cells.length:=e3
  refine ⟨.ptr b (off + i.toNat * R.sz), ?_, ?_⟩
  · rw [ho]
    simp only [aop,hy.int s.fr,e1,aindexAddr,har.und,har.sz]
    rw [if_pos (by exact ⟨h0,by omega⟩)]
    rfl
  · simp only [TE.ok]
    refine ⟨⟨_,rfl,b,_,cells,ro,rfl,e2,by omega, ?_⟩,rfl⟩
    have:=q4 _ a h3
    have hq:(((cells.drop off).take (n * R.sz)).drop (i.toNat * R.sz)).take R.sz = (cells.drop (off + i.toNat * R.sz)).take R.sz:=by
      rw [List.drop_take,List.take_take,List.drop_drop,Nat.min_eq_left (by omega)]
    exact hq ▸ this
end
end Go.Ai.Sx

/- Structs whose fields are filled in another order than they stand in. -/
namespace Go.Ai.Sx
section
variable {C:Ctx} {T:Tab} {d:Option (List Nat)} {ops rest:List Oper} {Γ:Env} {L:Own} {Q:AFrame → AHeap → Prop} {o:Oper} {t:Nat} {z:Store} {fr:AFrame} {h:AHeap}
theorem zt23 {c a b:List AVal} {o1 o2:Nat} (h:o1 + a.length ≤ o2 ∨ o2 + b.length ≤ o1) (h1:o1 + a.length ≤ c.length) (h2:o2 + b.length ≤ c.length):splice (splice c o1 a) o2 b = splice (splice c o2 b) o1 a:=by
 apply List.ext_getElem?
 intro j
 unfold splice
 simp only [List.getElem?_drop,List.getElem?_append,List.length_append,List.length_take,List.length_drop,List.getElem?_take]
 repeat' split
 all_goals (try omega)
 all_goals (first | rfl | (congr 1; omega))
def dis2 (p q:Nat × Nat):Prop:=p.1 + p.2 ≤ q.1 ∨ q.1 + q.2 ≤ p.1
theorem zh27 {place:Nat → Option (Nat × Nat)} {cells:List AVal} {i j:Nat} {v w:AVal} {rest:List (Nat × AVal)} (h:∀ p q,place i = some p → place j = some q → dis2 p q):afill place cells ((i,v) :: (j,w) :: rest) = afill place cells ((j,w) :: (i,v) :: rest):=by
 simp only [afill]
 cases hi:place i with
 | none =>
  cases hj:place j with
  | none=>rfl
  | some q =>
   obtain ⟨o2,s2⟩:=q
   simp only []
   split <;> rfl
 | some p =>
  obtain ⟨o1,s1⟩:=p
  cases hj:place j with
  | none =>
   simp only []
   split <;> rfl
  | some q =>
   obtain ⟨o2,s2⟩:=q
   have hd:=h _ _ hi hj
   simp only [dis2] at hd
   simp only []
   by_cases c1:v.defd = true ∧ v.cells.length = s1 ∧ o1 + v.cells.length ≤ cells.length
   ·rw [if_pos c1,zn5 c1.2.2]
    by_cases c2:w.defd = true ∧ w.cells.length = s2 ∧ o2 + w.cells.length ≤ cells.length
    ·rw [if_pos c2,if_pos c2,zn5 c2.2.2,if_pos c1,zt23 (by omega) c1.2.2 c2.2.2]
    ·rw [if_neg c2,if_neg c2]
   ·rw [if_neg c1]
    by_cases c2:w.defd = true ∧ w.cells.length = s2 ∧ o2 + w.cells.length ≤ cells.length
    ·rw [if_pos c2,zn5 c2.2.2,if_neg c1]
    ·rw [if_neg c2]
theorem zi27 {place:Nat → Option (Nat × Nat)} (hdis:∀ i j p q,i ≠ j → place i = some p → place j = some q → dis2 p q) {ps qs:List (Nat × AVal)} (h:ps.Perm qs):(ps.map (·.1)).Nodup → ∀ cells,afill place cells ps = afill place cells qs:=by
 induction h with
 | nil=>intro _ _; rfl
 | cons x _ ih =>
  intro hn cells
  obtain ⟨i,v⟩:=x
  rw [List.map_cons,List.nodup_cons] at hn
  simp only [afill]
  split
  ·rfl
  ·split
   ·exact ih hn.2 _
   ·rfl
 | swap x y l =>
  intro hn cells
  obtain ⟨i,v⟩:=x
  obtain ⟨j,w⟩:=y
  refine zh27 fun p q hp hq=>hdis _ _ _ _ ?_ hp hq
  simp only [List.map_cons,List.nodup_cons,List.mem_cons,not_or] at hn
  exact hn.1.1
 | trans h1 _ ih1 ih2 =>
  intro hn cells
  rw [ih1 hn,ih2 ((h1.map _).nodup_iff.1 hn)]
def risP:Nat → List (Nat × Nat) → Bool
 | _,[]=>true
 | n,p :: ps=>Nat.ble n p.1 && risP (p.1 + p.2) ps
theorem zh30:∀ {ps:List (Nat × Nat)} {n i:Nat} {p:Nat × Nat},risP n ps = true → ps[i]? = some p → n ≤ p.1
 | q :: ps,n,0,p,h,e=>by
  cases e
  simp only [risP,Bool.and_eq_true] at h
  exact Nat.le_of_ble_eq_true h.1
 | q :: ps,n,i + 1,p,h,e=>by
  simp only [risP,Bool.and_eq_true] at h
  have:=zh30 (ps:=ps) (i:=i) h.2 e
  have:=Nat.le_of_ble_eq_true h.1
  omega
 | [],_,_,_,_,e=>by cases e
theorem zr19:∀ {ps:List (Nat × Nat)} {n i j:Nat} {p q:Nat × Nat},risP n ps = true → i < j → ps[i]? = some p → ps[j]? = some q → p.1 + p.2 ≤ q.1
 | x :: ps,n,0,j + 1,p,q,h,_,e1,e2=>by
  cases e1
  simp only [risP,Bool.and_eq_true] at h
  exact zh30 h.2 e2
 | x :: ps,n,i + 1,j + 1,p,q,h,hlt,e1,e2=>by
  simp only [risP,Bool.and_eq_true] at h
  exact zr19 (ps:=ps) (i:=i) (j:=j) h.2 (by omega) e1 e2
 | [],_,_,_,_,_,_,_,e1,_=>by cases e1
 | _,_,_,0,_,_,_,hlt,_,_=>by omega
theorem ze18 {A:Type}:∀ l:List A,((List.range l.length).filterMap fun i=>l[i]?) = l
 | []=>rfl
 | x :: l=>by
  rw [List.length_cons,List.range_succ_eq_map,List.filterMap_cons,List.filterMap_map]
  simp only [List.getElem?_cons_zero]
  refine congrArg (x :: ·) ?_
  show (List.range l.length).filterMap (fun i=>(x :: l)[i + 1]?) = l
  simp only [List.getElem?_cons_succ]
  exact ze18 l
theorem zi30 {A:Type} {l:List A} {π:List Nat} (h:π.Perm (List.range l.length)):(π.filterMap fun i=>l[i]?).Perm l:=by
 have h1:=h.filterMap fun i=>l[i]?
 have h2:=ze18 l
 rwa [h2] at h1
theorem zh34 {A:Type} {R:Rep A} {zc:List AVal} {places:List (Nat × Nat)} {tt:TypeId} {parts:Array (Nat × Operand)} {a:A} (π:List Nat) (hst:Stt T tt zc places) (hw:Want ops Γ true o.guard) (ho:o.op = .build tt parts) (hd:o.dst = some t) (hagg:R.agg = true)
    (hb:Bld Γ zc places R 0 0 (π.filterMap fun i=>parts.toList[i]?) a) (hp:π.isPerm (List.range parts.toList.length) = true) (hn:(parts.toList.map (·.1)).Nodup) (hr:risP 0 places = true)
    (r:SOps C T d ops rest ((t,.val R a) :: Γ) L Q):SOps C T d ops (o :: rest) Γ L Q:=by
  refine zy1 (by rw [ho]; rfl) hw hd (fun z fr h s=>?_) r
  obtain ⟨fs,h1,h2⟩:=hst.pl
  obtain ⟨h0,hb⟩:=zp24 hb s.fr
  obtain ⟨c',h3,h4,_,h5⟩:=hb zc rfl rfl
  refine ⟨.agg c', ?_,by simp only [TE.ok]; exact ⟨by rw [List.drop_zero] at h5; exact h5,by rw [hagg]; rfl⟩⟩
  have hperm:=zi30 (l:=parts.toList) (List.isPerm_iff.1 hp)
  have e:afill (fun i=>places[i]?) zc (evParts fr.op parts.toList) = some c':=by
    rw [← h3]
    refine zi27 (fun i j p q hne h1 h2=>?_) (hperm.map _).symm ?_ zc
    · rcases Nat.lt_or_gt_of_ne hne with q' | q'
      · exact .inl (zr19 hr q' h1 h2)
      · exact .inr (zr19 hr q' h2 h1)
    · show ((evParts fr.op parts.toList).map (·.1)).Nodup
      unfold evParts
      rw [List.map_map]
      exact hn
  rw [ho]
  simp only [aop,abuild,hst.zero,h1,h2,AVal.cells,e,optVal,Option.map]
end
end Go.Ai.Sx

/- Steps that find their own evidence: the printed walks name only what cannot be found. -/
namespace Go.Ai.Sx
class iU (T:Tab) (t:TypeId) {A:outParam Type} (R:outParam (Rep A)):Prop where u:Und T t R
class iS (T:Tab) (st:TypeId) {A:outParam Type} (R:outParam (Rep A)) (et:outParam TypeId):Prop where s:Sl T st et R
class iF (T:Tab) (s i:Nat) {A B:outParam Type} (R:outParam (Rep A)) (S:outParam (Rep B)) (ft off:outParam Nat) (g:outParam (A → B)) (w:outParam (A → B → A)):Prop where
 f:Fld T s i ft off S.sz
 k:FOk R off S g w
 p:0 < S.sz
class iY (T:Tab) (et:TypeId) {A:outParam Type} (R:outParam (Rep A)) (bytes:outParam Nat):Prop where y:Ty T et R bytes
class iZ (T:Tab) (et:TypeId) {A:outParam Type} (R:outParam (Rep A)) (x:outParam A):Prop where z:Zr T et R x
class iB (T:Tab) (t:TypeId) {A:outParam Type} (R:outParam (Rep A)) (zc:outParam (List AVal)) (places:outParam (List (Nat × Nat))):Prop where
 b:Stt T t zc places
 a:R.agg = true
class iK (T:Tab) (t:TypeId) (k:outParam TypeDesc):Prop where k:T.und t = some k
class iA (T:Tab) (t:TypeId) {A:outParam Type} (R:outParam (Rep A)) (et n:outParam Nat):Prop where a:Ar1 T t et n R
class iE (T:Tab) (t:TypeId) {A:outParam Type} (R:outParam (Rep A)) (q:outParam (A → A → Bool)):Prop where
 e:SEq T t R q
 a:R.agg = true
class FI {α:Type} (T:Tab) (g:FuncId) (m:Option α) (as:outParam (List TE)) (rs:outParam (α → List RE)):Prop where ok:∀ o,m = some o → Fun T g as (rs o)
theorem fi {α:Type} {T:Tab} {g:FuncId} {m:Option α} {as:List TE} {rs:α → List RE} [h:FI T g m as rs] {o:α} (e:m = some o):Fun T g as (rs o):=h.ok o e
universe u
section
variable {A:Type u} {l:List A} {a b c e f g h i j:A}
theorem k0:(a :: l)[0]? = some a:=rfl
theorem k1:(a :: b :: l)[1]? = some b:=rfl
theorem k2:(a :: b :: c :: l)[2]? = some c:=rfl
theorem k3:(a :: b :: c :: e :: l)[3]? = some e:=rfl
theorem k4:(a :: b :: c :: e :: f :: l)[4]? = some f:=rfl
theorem k5:(a :: b :: c :: e :: f :: g :: l)[5]? = some g:=rfl
theorem k6:(a :: b :: c :: e :: f :: g :: h :: l)[6]? = some h:=rfl
theorem k7:(a :: b :: c :: e :: f :: g :: h :: i :: l)[7]? = some i:=rfl
theorem k8:(a :: b :: c :: e :: f :: g :: h :: i :: j :: l)[8]? = some j:=rfl
end
section
variable {C:Ctx} {T:Tab} {d:Option (List Nat)} {ops rest:List Oper} {Γ:Env} {L:Own} {Q:AFrame → AHeap → Prop} {P:AExit → AFrame → AHeap → Prop} {e e':TE} {t i j:Nat} {x y z:Operand} {ty u u' et st:TypeId} {p:String} {af:Array Edge} {gd:Option (Nat × Bool)} {A B:Type} {R:Rep A} {S:Rep B} {k k':IntKind} {m n i':Int} {v:AVal} {q:Bool} {a:A} {xs ys:List A} {c:Call}
abbrev vI (n:Int):TE:=.val (rInt .i64) n
abbrev vB (b:Bool):TE:=.val rBool b
theorem c1 {b:B} {fs:List TE} (h1:R.agg = false) (h2:Cells S b fs):Cells (rPair R S) (a,b) (.val R a :: fs):=za (zb h1) h2 rfl
theorem c2 {b:B} {es fs:List TE} (h1:Cells R a es) (h2:Cells S b fs):Cells (rPair R S) (a,b) (es ++ fs):=za h1 h2 rfl
theorem gl1:(true == true) = true:=rfl
theorem gl0:(false == false) = true:=rfl
theorem gm1:(true == false) = false:=rfl
theorem gm0:(false == true) = false:=rfl
theorem EQ {p:Prop} (h:p:=by first | with_reducible assumption | assumption):p:=h
theorem EW {p:Prop} (h:p:=by first | exact .n rfl | (apply Want.g; rfl; rfl; first | (apply gt1; with_reducible assumption) | (apply gf0; with_reducible assumption) | with_reducible exact gl1 | with_reducible exact gl0)):p:=h
theorem EN {p:Prop} (h:p:=by first | exact .u rfl rfl rfl | (apply Want.g; rfl; rfl; first | (apply gf1; with_reducible assumption) | (apply gt0; with_reducible assumption) | with_reducible exact gm1 | with_reducible exact gm0)):p:=h
theorem EO {p:Prop} (h:p:=by first | exact .t rfl | exact .i (by decide) (by decide) | exact .b | exact .f | exact .nil):p:=h
theorem EM {p:Prop} (h:p:=by first | exact .t rfl | exact .i (by decide) (by decide) | exact .b | exact .f):p:=h
theorem EL {p:Prop} (h:p:=by first | exact k0 | exact k1 | exact k2 | exact k3 | exact k4 | exact k5 | exact k6 | exact k7 | exact k8):p:=h
theorem EC {p:Prop} (h:p:=by
 repeat first | exact ze | exact zb rfl | (apply c1; rfl) | apply c2
 all_goals fail):p:=h
theorem EZ {p:Prop} (h:p:=by
 repeat first | exact zint | exact zbool | exact znil | exact zunit | exact znilN | exact znilM | exact ⟨rfl,by decide,by decide⟩ | apply zpair | rfl
 all_goals fail):p:=h
theorem EB {p:Prop} (h:p:=by
 repeat first | exact .n rfl | (apply Bld.p; exact EO; rfl) | (apply Bld.z; intro _; exact EZ)
 all_goals fail):p:=h
theorem ES {p:Prop} (h:p:=by first | exact .n | exact .s EO):p:=h
theorem ER {p:Prop} (h:p:=by intro _ h; cases h <;> rfl):p:=h
theorem EA {p:Prop} (h:p:=by
 repeat first | exact .n | (apply Opds.c; exact EO) | (apply Elts.c; exact EO)
 all_goals fail):p:=h
theorem EH {p:Prop} (h:p:=by first | with_reducible assumption | with_reducible rfl):p:=h
theorem EG {p:Prop} (h:p:=by first | exact FOk.self | exact (inferInstanceAs (iF _ _ _ _ _ _ _ _ _)).k):p:=h
theorem wmv (h:Opd Γ x e) (w:Want ops Γ true gd) (r:SOps C T d ops rest ((t,e) :: Γ) L Q):SOps C T d ops (⟨some t,.move x,ty,p,af,gd⟩ :: rest) Γ L Q:=zy40 w rfl rfl h r
theorem wsg (h:Opd Γ x e) (w:Want ops Γ true gd) (r:SOps C T d ops rest ((t,e) :: Γ) L Q):SOps C T d ops (⟨some t,.assign x,ty,p,af,gd⟩ :: rest) Γ L Q:=zj2 w rfl rfl h r
theorem wsk {o:Op} (w:Want ops Γ false (some (j,q))) (r:SOps C T d ops rest ((t,.raw unit) :: Γ) L Q):SOps C T d ops (⟨some t,o,ty,p,af,some (j,q)⟩ :: rest) Γ L Q:=zx40 w rfl r
theorem wsn {o:Op} (w:Want ops Γ false (some (j,q))) (r:SOps C T d ops rest Γ L Q):SOps C T d ops (⟨none,o,ty,p,af,some (j,q)⟩ :: rest) Γ L Q:=za37 w rfl r
theorem wld [hu:iU T et R] (h:Opd Γ x (.val (rPtr R) a)) (w:Want ops Γ true gd) (r:SOps C T d ops rest ((t,.val R a) :: Γ) L Q):SOps C T d ops (⟨some t,.load et x,ty,p,af,gd⟩ :: rest) Γ L Q:=zc41 hu.u w rfl rfl h r
theorem wfa {s ft off:Nat} {g:A → B} {f:A → B → A} [hf:iF T s i R S ft off g f] (h:Opd Γ x (.val (rPtr R) a)) (w:Want ops Γ true gd) (r:SOps C T d ops rest ((t,.val (rPtr S) (g a)) :: Γ) L Q):SOps C T d ops (⟨some t,.fieldAddr s x i,ty,p,af,gd⟩ :: rest) Γ L Q:=s_fa hf.f hf.k hf.p w rfl rfl h r
theorem wfe {s ft off j' o0:Nat} {g:A → B} {f:A → B → A} [hf:iF T s i R S ft off g f] (h:Opd Γ x (.elt v j' o0)) (w:Want ops Γ true gd) (r:SOps C T d ops rest ((t,.elt v j' (o0 + off)) :: Γ) L Q):SOps C T d ops (⟨some t,.fieldAddr s x i,ty,p,af,gd⟩ :: rest) Γ L Q:=ze37 hf.f hf.p w rfl rfl h r
theorem wfr {s ft off b o0:Nat} {g:A → B} {f:A → B → A} [hf:iF T s i R S ft off g f] (h:Opd Γ x (.raw (.ptr b o0))) (w:Want ops Γ true gd) (r:SOps C T d ops rest ((t,.raw (.ptr b (o0 + off))) :: Γ) L Q):SOps C T d ops (⟨some t,.fieldAddr s x i,ty,p,af,gd⟩ :: rest) Γ L Q:=zf37 hf.f hf.p w rfl rfl h r
theorem wfd {s ft off:Nat} {g:A → B} {f:A → B → A} [hf:iF T s i R S ft off g f] [hu:iU T ft S] (h:Opd Γ x (.val R a)) (w:Want ops Γ true gd) (hR:R.agg = true) (r:SOps C T d ops rest ((t,.val S (g a)) :: Γ) L Q):SOps C T d ops (⟨some t,.field s x i,ty,p,af,gd⟩ :: rest) Γ L Q:=zh37 hf.f hu.u hR hf.k w rfl rfl h r
theorem war {op:BinOp} (hx:Opd Γ x (.val (rInt k) m)) (hy:Opd Γ y (.val (rInt k) n)) (ha:Ar k m n op i') (w:Want ops Γ true gd) (r:SOps C T d ops rest ((t,.val (rInt k) i') :: Γ) L Q):SOps C T d ops (⟨some t,.binOp op u x y u',ty,p,af,gd⟩ :: rest) Γ L Q:=s_ar w rfl rfl hx hy ha r
theorem wdv (hx:Opd Γ x (.val (rInt k) m)) (hy:Opd Γ y (.val (rInt k) n)) (ha:divO k m n = some i') (w:Want ops Γ true gd) (r:SOps C T d ops rest ((t,.val (rInt k) i') :: Γ) L Q):SOps C T d ops (⟨some t,.binOp .quo u x y u',ty,p,af,gd⟩ :: rest) Γ L Q:=s_ar w rfl rfl hx hy (zp33 ha) r
theorem wrm (hx:Opd Γ x (.val (rInt k) m)) (hy:Opd Γ y (.val (rInt k) n)) (ha:remO m n = some i') (w:Want ops Γ true gd) (r:SOps C T d ops rest ((t,.val (rInt k) i') :: Γ) L Q):SOps C T d ops (⟨some t,.binOp .rem u x y u',ty,p,af,gd⟩ :: rest) Γ L Q:=zi41 ha w rfl rfl hx hy r
theorem wsl (hx:Opd Γ x (.val (rInt k) m)) (hy:Opd Γ y (.val (rInt k') n)) (ha:shlO k m n = some i') (w:Want ops Γ true gd) (r:SOps C T d ops rest ((t,.val (rInt k) i') :: Γ) L Q):SOps C T d ops (⟨some t,.binOp .shl u x y u',ty,p,af,gd⟩ :: rest) Γ L Q:=zj41 ha w rfl rfl hx hy r
theorem wsr (hx:Opd Γ x (.val (rInt k) m)) (hy:Opd Γ y (.val (rInt k') n)) (ha:shrO k m n = some i') (w:Want ops Γ true gd) (r:SOps C T d ops rest ((t,.val (rInt k) i') :: Γ) L Q):SOps C T d ops (⟨some t,.binOp .shr u x y u',ty,p,af,gd⟩ :: rest) Γ L Q:=zk41 ha w rfl rfl hx hy r
theorem wcm {op:BinOp} (hx:Opd Γ x (.val (rInt k) m)) (hy:Opd Γ y (.val (rInt k) n)) (ha:Cmp m n op q) (w:Want ops Γ true gd) (r:SOps C T d ops rest ((t,.val rBool q) :: Γ) L Q):SOps C T d ops (⟨some t,.binOp op u x y u',ty,p,af,gd⟩ :: rest) Γ L Q:=s_cmp w rfl rfl hx hy ha r
theorem wbe {b b':Bool} [hk:iK T u .bool] (hx:Opd Γ x (.val rBool b)) (hy:Opd Γ y (.val rBool b')) (w:Want ops Γ true gd) (r:SOps C T d ops rest ((t,.val rBool (b == b')) :: Γ) L Q):SOps C T d ops (⟨some t,.binOp .eql u x y u',ty,p,af,gd⟩ :: rest) Γ L Q:=s_beq hk.k w rfl rfl hx hy r
theorem wbn {b b':Bool} [hk:iK T u .bool] (hx:Opd Γ x (.val rBool b)) (hy:Opd Γ y (.val rBool b')) (w:Want ops Γ true gd) (r:SOps C T d ops rest ((t,.val rBool (b != b')) :: Γ) L Q):SOps C T d ops (⟨some t,.binOp .neq u x y u',ty,p,af,gd⟩ :: rest) Γ L Q:=s_bne hk.k w rfl rfl hx hy r
theorem wse {a':A} {f:A → A → Bool} [hs:iE T u R f] (hx:Opd Γ x (.val R a)) (hy:Opd Γ y (.val R a')) (w:Want ops Γ true gd) (r:SOps C T d ops rest ((t,.val rBool (f a a')) :: Γ) L Q):SOps C T d ops (⟨some t,.binOp .eql u x y u',ty,p,af,gd⟩ :: rest) Γ L Q:=s_seq hs.e hs.a w rfl rfl hx hy r
theorem wno (hx:Opd Γ x (.val rBool q)) (w:Want ops Γ true gd) (r:SOps C T d ops rest ((t,.val rBool (!q)) :: Γ) L Q):SOps C T d ops (⟨some t,.unOp .not u x,ty,p,af,gd⟩ :: rest) Γ L Q:=s_not w rfl rfl hx r
theorem wng (hx:Opd Γ x (.val (rInt k) m)) (w:Want ops Γ true gd) (r:SOps C T d ops rest ((t,.val (rInt k) (k.wrap (0 - m))) :: Γ) L Q):SOps C T d ops (⟨some t,.unOp .neg u x,ty,p,af,gd⟩ :: rest) Γ L Q:=s_neg w rfl rfl hx r
theorem wcv {ds:TypeDesc} [h1:iK T u ds] [h2:iK T u' (.int k')] (hx:Opd Γ x (.val (rInt k) m)) (w:Want ops Γ true gd) (r:SOps C T d ops rest ((t,.val (rInt k') (k'.wrap m)) :: Γ) L Q):SOps C T d ops (⟨some t,.convert u u' x,ty,p,af,gd⟩ :: rest) Γ L Q:=zz40 (by rw [h1.k]; rfl) h2.k w rfl rfl hx r
theorem wp1 (hc:Opd Γ z (.val rBool q)) (hb:q = true) (hx:Opd Γ x e) (w:Want ops Γ true gd) (r:SOps C T d ops rest ((t,e) :: Γ) L Q):SOps C T d ops (⟨some t,.pick z x y,ty,p,af,gd⟩ :: rest) Γ L Q:=s_pk1 hb w rfl rfl hc hx r
theorem wp0 (hc:Opd Γ z (.val rBool q)) (hb:q = false) (hy:Opd Γ y e) (w:Want ops Γ true gd) (r:SOps C T d ops rest ((t,e) :: Γ) L Q):SOps C T d ops (⟨some t,.pick z x y,ty,p,af,gd⟩ :: rest) Γ L Q:=s_pk0 hb w rfl rfl hc hy r
theorem wln [hs:iS T st R et] (hx:Opd Γ x (.val (rSlice R) xs)) (w:Want ops Γ true gd) (r:SOps C T d ops rest ((t,.val (rInt .i64) (lenI xs)) :: Γ) L Q):SOps C T d ops (⟨some t,.call ⟨.builtin .len,#[x],#[st]⟩,ty,p,af,gd⟩ :: rest) Γ L Q:=s_len hs.s w rfl rfl rfl rfl rfl hx r
theorem wlo {κ:Nat} [hs:iS T st R et] (hx:Opd Γ x (.raw v)) (hk:L[κ]? = some (v,.row R xs)) (w:Want ops Γ true gd) (r:SOps C T d ops rest ((t,.val (rInt .i64) (lenI xs)) :: Γ) L Q):SOps C T d ops (⟨some t,.call ⟨.builtin .len,#[x],#[st]⟩,ty,p,af,gd⟩ :: rest) Γ L Q:=za41 κ hs.s w rfl rfl rfl rfl rfl hx hk r
theorem wmx {ats:Array TypeId} (hx:Opd Γ x (.val (rInt k) m)) (hy:Opd Γ y (.val (rInt k) n)) (w:Want ops Γ true gd) (r:SOps C T d ops rest ((t,.val (rInt k) (max m n)) :: Γ) L Q):SOps C T d ops (⟨some t,.call ⟨.builtin .max,#[x,y],ats⟩,ty,p,af,gd⟩ :: rest) Γ L Q:=s_max w rfl rfl rfl rfl hx hy r
theorem wmn {ats:Array TypeId} (hx:Opd Γ x (.val (rInt k) m)) (hy:Opd Γ y (.val (rInt k) n)) (w:Want ops Γ true gd) (r:SOps C T d ops rest ((t,.val (rInt k) (min m n)) :: Γ) L Q):SOps C T d ops (⟨some t,.call ⟨.builtin .min,#[x,y],ats⟩,ty,p,af,gd⟩ :: rest) Γ L Q:=s_min w rfl rfl rfl rfl hx hy r
theorem wix [hs:iS T st R et] (hx:Opd Γ x (.val (rSlice R) xs)) (hy:Opd Γ y (.val (rInt k) m)) (hi:idx xs m = some a) (w:Want ops Γ true gd) (r:SOps C T d ops rest ((t,.val (rPtr R) a) :: Γ) L Q):SOps C T d ops (⟨some t,.indexAddr st x y,ty,p,af,gd⟩ :: rest) Γ L Q:=s_idx hs.s hi w rfl rfl hx hy r
theorem wio {κ:Nat} [hs:iS T st R et] (hx:Opd Γ x (.raw v)) (hk:L[κ]? = some (v,.row R xs)) (hy:Opd Γ y (.val (rInt k) m)) (hi:idx xs m = some a) (w:Want ops Γ true gd) (r:SOps C T d ops rest ((t,.elt v m.toNat 0) :: Γ) L Q):SOps C T d ops (⟨some t,.indexAddr st x y,ty,p,af,gd⟩ :: rest) Γ L Q:=zb41 κ hs.s hi w rfl rfl hx hk hy r
theorem wia {κ n' b:Nat} [hs:iA T st R et n'] (hx:Opd Γ x (.raw (.ptr b 0))) (hk:L[κ]? = some (.slice b 0 n' R.sz (some n'),.row R xs)) (hy:Opd Γ y (.val (rInt k) m)) (hi:idx xs m = some a) (w:Want ops Γ true gd) (r:SOps C T d ops rest ((t,.elt (.slice b 0 n' R.sz (some n')) m.toNat 0) :: Γ) L Q):SOps C T d ops (⟨some t,.indexAddr st x y,ty,p,af,gd⟩ :: rest) Γ L Q:=zm41 κ hs.a hk hi w rfl rfl hx hy r
theorem win {n':Nat} [hs:iA T st R et n'] (hx:Opd Γ x (.val (rArr n' R) xs)) (hy:Opd Γ y (.val (rInt k) m)) (hi:idx xs m = some a) (w:Want ops Γ true gd) (r:SOps C T d ops rest ((t,.val R a) :: Γ) L Q):SOps C T d ops (⟨some t,.index st x y,ty,p,af,gd⟩ :: rest) Γ L Q:=zn37 hs.a hi w rfl rfl hx hy r
theorem wle {κ i0 off:Nat} {m0:Int} {g:A → B} {f:A → B → A} [hu:iU T et S] (hx:Opd Γ x (.elt v i0 off)) (hk:L[κ]? = some (v,.row R xs)) (hf:FOk R off S g f) (hi:idx xs m0 = some a) (e0:m0.toNat = i0) (w:Want ops Γ true gd) (hl:Listed d ops rest) (r:SOps C T d ops rest ((t,.val S (g a)) :: Γ) L Q):SOps C T d ops (⟨some t,.load et x,ty,p,af,gd⟩ :: rest) Γ L Q:=zk19 κ hl hu.u hf (e0 ▸ (zl8 hi).2.2.2) w rfl rfl hx hk r
theorem wlb {κ b b':Nat} {es:List TE} [hu:iU T et R] (hx:Opd Γ x (.raw (.ptr b b'))) (hk:L[κ]? = some (.ptr b 0,.box es)) (he:es[b']? = some e) (hg:R.agg = false) (w:Want ops Γ true gd) (hl:Listed d ops rest) (r:SOps C T d ops rest ((t,e) :: Γ) L Q):SOps C T d ops (⟨some t,.load et x,ty,p,af,gd⟩ :: rest) Γ L Q:=zj37 κ hl (hg ▸ hu.u.agg) he w rfl rfl hx hk r
theorem wnk (hx:Opd Γ x (.val (rPtr R) a)) (w:Want ops Γ true gd) (r:SOps C T d ops rest ((t,.val (rPtr R) a) :: Γ) L Q):SOps C T d ops (⟨some t,.nilCheck x,ty,p,af,gd⟩ :: rest) Γ L Q:=zg37 w rfl rfl hx r
theorem wnr {b b':Nat} (hx:Opd Γ x (.raw (.ptr b b'))) (w:Want ops Γ true gd) (r:SOps C T d ops rest ((t,.raw (.ptr b b')) :: Γ) L Q):SOps C T d ops (⟨some t,.nilCheck x,ty,p,af,gd⟩ :: rest) Γ L Q:=zj33 w rfl rfl hx r
theorem wex {es:List TE} (hx:Opd Γ x (.tup es)) (he:es[i]? = some e) (w:Want ops Γ true gd) (r:SOps C T d ops rest ((t,e) :: Γ) L Q):SOps C T d ops (⟨some t,.extract x i,ty,p,af,gd⟩ :: rest) Γ L Q:=s_ext he w rfl rfl hx r
theorem wbx (hx:Opd Γ x (.val R a)) (w:Want ops Γ true gd) (r:SOps C T d ops rest ((t,.val (rPtr R) a) :: Γ) L Q):SOps C T d ops (⟨some t,.box et x,ty,p,af,gd⟩ :: rest) Γ L Q:=s_box w rfl rfl hx r
theorem wbs {bytes N:Nat} {parts:Array (Nat × Operand)} [hs:iS T st R et] [hy:iY T et R bytes] (he:Elts Γ R 0 parts.toList xs) (hn:xs.length = N) (hb:N * R.sz ≤ 2 ^ 24) (w:Want ops Γ true gd) (r:SOps C T d ops rest ((t,.val (rSlice R) xs) :: Γ) L Q):SOps C T d ops (⟨some t,.buildSlice st N parts,ty,p,af,gd⟩ :: rest) Γ L Q:=s_bs hs.s hy.y w rfl rfl he hn hb r
theorem wmk {bytes:Nat} {x0:A} [hs:iS T st R et] [hy:iY T et R bytes] [hz:iZ T et R x0] (hl:Opd Γ x (.val (rInt .i64) m)) (hc:Opd Γ y (.val (rInt .i64) m)) (hm:mkO bytes m x0 = some xs) (w:Want ops Γ true gd) (r:∀ v,SOps C T d ops rest ((t,.raw v) :: Γ) ((v,.row R xs) :: L) Q):SOps C T d ops (⟨some t,.makeSlice st x y,ty,p,af,gd⟩ :: rest) Γ L Q:=s_mk hs.s hy.y hz.z hm w rfl rfl hl hc r
theorem wap {κ bytes:Nat} {L':Own} {zs:List A} [hs:iS T st R et] [hy:iY T et R bytes] (hx:Opd Γ x (.raw v)) (hk:L[κ]? = some (v,.row R xs)) (hy':Opd Γ y (.val (rSlice R) ys)) (hap:appO bytes xs ys = some zs) (hL:dropAt L κ = some L') (w:Want ops Γ true gd) (r:∀ v',SOps C T d ops rest ((t,.raw v') :: Γ) ((v',.row R zs) :: L') Q) (hra:RootsOff d Γ L κ):SOps C T d ops (⟨some t,.call ⟨.builtin .append,#[x,y],#[st,st]⟩,ty,p,af,gd⟩ :: rest) Γ L Q:=s_app κ hs.s hy.y hap w rfl rfl rfl rfl rfl hx hk hy' hL r hra
theorem wso {κ i0 off:Nat} {m0:Int} {L':Own} {b:B} {g:A → B} {f:A → B → A} [hu:iU T et S] (hx:Opd Γ x (.elt v i0 off)) (hk:L[κ]? = some (v,.row R xs)) (hf:FOk R off S g f) (hy:Opd Γ y (.val S b)) (hi:idx xs m0 = some a) (e0:m0.toNat = i0) (hL:setAt L κ (v,.row R (xs.set i0 (f a b))) = some L') (w:Want ops Γ true gd) (r:SOps C T d ops rest Γ L' Q):SOps C T d ops (⟨none,.store et x y,ty,p,af,gd⟩ :: rest) Γ L Q:=zk33 κ hu.u hf (e0 ▸ (zl8 hi).2.2.2) w rfl rfl hx hy hk hL r
theorem wsb {κ b b':Nat} {es:List TE} {L':Own} [hu:iU T et R] (hx:Opd Γ x (.raw (.ptr b b'))) (hk:L[κ]? = some (.ptr b 0,.box es)) (hy:Opd Γ y (.val R a)) (hg:R.agg = false) (h1:R.sz = 1) (hq:b' < es.length) (hL:setAt L κ (.ptr b 0,.box (es.set b' (.val R a))) = some L') (w:Want ops Γ true gd) (r:SOps C T d ops rest Γ L' Q):SOps C T d ops (⟨none,.store et x y,ty,p,af,gd⟩ :: rest) Γ L Q:=zn33 κ (h1 ▸ hu.u.sz) hk hq w rfl rfl hx hy hg hL r
theorem wss {κ b:Nat} {es es':List TE} {L':Own} [hu:iU T et R] (hx:Opd Γ x (.raw (.ptr b 0))) (hk:L[κ]? = some (.ptr b 0,.box es)) (hy:Opd Γ y (.val R a)) (hc:Cells R a es') (hl:es'.length = es.length) (hL:setAt L κ (.ptr b 0,.box es') = some L') (w:Want ops Γ true gd) (r:SOps C T d ops rest Γ L' Q):SOps C T d ops (⟨none,.store et x y,ty,p,af,gd⟩ :: rest) Γ L Q:=za29 κ hu.u hk hc hl w rfl rfl hx hy hL r
theorem FL {p:Prop} (h:p:=by
 repeat first | exact zp14 | exact zr15 | exact zg21 | apply zs15
 all_goals fail):p:=h
theorem EF {p:Prop} (h:p:=by
 repeat first | exact .n | (apply Flats.v; exact FL) | (apply Flats.r; exact FL)
 all_goals fail):p:=h
theorem ED {p:Prop} (h:p:=by
 repeat first | exact .n | (apply Lends.c; apply Lend.o; exact EO) | (apply Lends.c; apply Lend.r; exact EO; exact EL) | (apply Lends.c; apply Lend.b; exact EO; exact EL; exact EC)
 all_goals fail):p:=h
theorem wcl {az:Array Operand} {ats:Array TypeId} {α:Type} {g:FuncId} {mm:Option α} {as:List TE} {rs:α → List RE} {o:α} [hf:FI T g mm as rs] (hm:mm = some o) (hfl:Flats (rs o)) (ha:Lends Γ L az.toList as) (hcs:T.consts.get g = none) (w:Want ops Γ true gd) (r:RQ (rs o) L fun es L'=>SOps C T d ops rest ((t,teOf es) :: Γ) L' Q):SOps C T d ops (⟨some t,.call ⟨.value (.func g),az,ats⟩,ty,p,af,gd⟩ :: rest) Γ L Q:=ze13 (fi hm) hfl hcs w rfl rfl rfl .f ha r
theorem wcq {az:Array Operand} {ats:Array TypeId} {α:Type} {g:FuncId} {mm:Option α} {as:List TE} {rs:α → List RE} {o:α} [hf:FI T g mm as rs] (hm:mm = some o) (ha:Opds Γ az.toList as) (hcs:T.consts.get g = none) (w:Want ops Γ true gd) (r:RQ (rs o) L fun es L'=>SOps C T d ops rest ((t,teOf es) :: Γ) L' Q):SOps C T d ops (⟨some t,.call ⟨.value (.func g),az,ats⟩,ty,p,af,gd⟩ :: rest) Γ L Q:=zz35 (pre:=[]) (post:=[]) (vs:=[]) (fi hm) hcs w rfl rfl rfl .f ha r
theorem wne {a':A} [BEq A] [hs:iE T u R fun x y=>x == y] (hx:Opd Γ x (.val R a)) (hy:Opd Γ y (.val R a')) (w:Want ops Γ true gd) (r:SOps C T d ops rest ((t,.val rBool (a != a')) :: Γ) L Q):SOps C T d ops (⟨some t,.binOp .neq u x y u',ty,p,af,gd⟩ :: rest) Γ L Q:=s_sne hs.e hs.a w rfl rfl hx hy r
theorem wbu {zc:List AVal} {places:List (Nat × Nat)} {parts:Array (Nat × Operand)} [hb:iB T et R zc places] (h:Bld Γ zc places R 0 0 parts.toList a) (w:Want ops Γ true gd) (r:SOps C T d ops rest ((t,.val R a) :: Γ) L Q):SOps C T d ops (⟨some t,.build et parts,ty,p,af,gd⟩ :: rest) Γ L Q:=zl23 hb.b w rfl rfl hb.a h r
theorem wsc {lo hi:Option Operand} {i0 j0:Int} [hs:iS T st R et] (hx:Opd Γ x (.val (rSlice R) xs)) (hlo:Bnd Γ lo 0 i0) (hhi:Bnd Γ hi (lenI xs) j0) (hn:slO xs i0 j0 = some ys) (w:Want ops Γ true gd) (r:SOps C T d ops rest ((t,.val (rSlice R) ys) :: Γ) L Q):SOps C T d ops (⟨some t,.slice st x lo hi none,ty,p,af,gd⟩ :: rest) Γ L Q:=s_slO hs.s hn w rfl rfl hx hlo hhi r
theorem wcb {az:Array Operand} {ats:Array TypeId} {α β:Type} {g:FuncId} {mm:Option α} {as:List TE} {rs:α → List RE} {f:α → Option β} {o:β} (ho:Option.bind mm f = some o) [hf:FI T g mm as rs] (hfl:∀ y,Flats (rs y)) (ha:Lends Γ L az.toList as) (hcs:T.consts.get g = none) (w:Want ops Γ true gd) (r:∀ y,mm = some y → f y = some o → RQ (rs y) L fun es L'=>SOps C T d ops rest ((t,teOf es) :: Γ) L' Q):SOps C T d ops (⟨some t,.call ⟨.value (.func g),az,ats⟩,ty,p,af,gd⟩ :: rest) Γ L Q:=by
 obtain ⟨y,h1,h2⟩:=bnd ho
 exact ze13 (fi h1) (hfl y) hcs w rfl rfl rfl .f ha (r y h1 h2)
theorem wco {az:Array Operand} {ats:Array TypeId} {α β:Type} {g:FuncId} {mm:Option α} {as:List TE} {rs:α → List RE} {f:α → Option β} {o:β} (ho:Option.bind mm f = some o) [hf:FI T g mm as rs] (ha:Opds Γ az.toList as) (hcs:T.consts.get g = none) (w:Want ops Γ true gd) (r:∀ y,mm = some y → f y = some o → RQ (rs y) L fun es L'=>SOps C T d ops rest ((t,teOf es) :: Γ) L' Q):SOps C T d ops (⟨some t,.call ⟨.value (.func g),az,ats⟩,ty,p,af,gd⟩ :: rest) Γ L Q:=by
 obtain ⟨y,h1,h2⟩:=bnd ho
 exact zz35 (pre:=[]) (post:=[]) (vs:=[]) (fi h1) hcs w rfl rfl rfl .f ha (r y h1 h2)
theorem xmk {bytes:Nat} {x0:A} [hs:iS T st R et] [hy:iY T et R bytes] [hz:iZ T et R x0] (r:∀ v,SOps C T d ops rest ((t,.raw v) :: Γ) ((v,.row R xs) :: L) Q) (hl:Opd Γ x (.val (rInt .i64) m):=by exact EO) (hc:Opd Γ y (.val (rInt .i64) m):=by exact EO) (hm:mkO bytes m x0 = some xs:=by assumption) (w:Want ops Γ true gd:=by exact EW):SOps C T d ops (⟨some t,.makeSlice st x y,ty,p,af,gd⟩ :: rest) Γ L Q:=wmk hl hc hm w r
theorem xap {κ bytes:Nat} {L':Own} {zs:List A} [hs:iS T st R et] [hy:iY T et R bytes] (r:∀ v',SOps C T d ops rest ((t,.raw v') :: Γ) ((v',.row R zs) :: L') Q) (hx:Opd Γ x (.raw v):=by exact EO) (hk:L[κ]? = some (v,.row R xs):=by exact EL) (hy':Opd Γ y (.val (rSlice R) ys):=by exact EO) (hap:appO bytes xs ys = some zs:=by assumption) (hL:dropAt L κ = some L':=by rfl) (w:Want ops Γ true gd:=by exact EW) (hra:RootsOff d Γ L κ:=by exact ROO):SOps C T d ops (⟨some t,.call ⟨.builtin .append,#[x,y],#[st,st]⟩,ty,p,af,gd⟩ :: rest) Γ L Q:=wap hx hk hy' hap hL w r hra
theorem OKS {p:Prop} (h:p:=by
 intro _
 repeat first | exact okn | apply okint | apply okbool | apply oknil | apply okraw | apply oknilN
 all_goals fail):p:=h
theorem xal {zv:AVal} {es:List TE} (hz:zeroT T et = some zv) (r:∀ b,SOps C T d ops rest ((t,.raw (.ptr b 0)) :: Γ) ((.ptr b 0,.box es) :: L) Q) (hes:∀ z,okAll z es zv.cells:=by exact OKS) (h1:zv.cells.all AVal.one = true:=by rfl) (w:Want ops Γ true gd:=by exact EW):SOps C T d ops (⟨some t,.alloc et,ty,p,af,gd⟩ :: rest) Γ L Q:=zi37 hz hes h1 w rfl rfl r
theorem xbo {es:List TE} (r:∀ b,SOps C T d ops rest ((t,.raw (.ptr b 0)) :: Γ) ((.ptr b 0,.box es) :: L) Q) (hx:Opd Γ x (.val R a):=by exact EO) (hc:Cells R a es:=by exact EC) (w:Want ops Γ true gd:=by exact EW):SOps C T d ops (⟨some t,.box et x,ty,p,af,gd⟩ :: rest) Γ L Q:=ze41 hc w rfl rfl hx r
theorem wrr {id:Nat} {os:Array Oper} {b:Code} (r:SOps C T none os.toList os.toList Γ L (SeqP C T b P .normal)):SRun C T (.seq (.region id os false) b) Γ L P:=r_seq (zh12 r)
theorem rgg {id:Nat} {os:Array Oper} (r:SOps C T none os.toList os.toList Γ L (P .normal)):SRun C T (.region id os false) Γ L P:=zh12 r
theorem wrn {id:Nat} {os:Array Oper} (h:(os.toList.all fun o=>o.guard.isNone) = true) (r:SOps C T none os.toList os.toList Γ L (P .normal)):SRun C T (.region id os false) Γ L P:=zh12 r
theorem wnq {b:Code} {P2:AExit → AFrame → AHeap → Prop} (r:SRun C T b Γ L P2):SOps C T d ops [] Γ L (fun fr h=>Run T b fr h P2):=zl41 rfl r
theorem wct {α:Type} {b b':Code} {k1 k0:Option α} {o:α} (ho:cond q k1 k0 = some o) (r1:q = true → k1 = some o → SRun C T b Γ L P) (r0:q = false → k0 = some o → SRun C T b' Γ L P) (h:Opd Γ x (.val rBool q):=by exact EO):SRun C T (.cond x b b') Γ L P :=
 zh1 h (fun q=>r1 q (cnd1 ho q)) (fun q=>r0 q (cnd0 ho q))
theorem wbr {α:Type} {k1 k0:Option α} {o:α} {F:Prop} (ho:cond q k1 k0 = some o) (r1:q = true → k1 = some o → F) (r0:q = false → k0 = some o → F):F:=by
 cases q with
 | true=>exact r1 rfl ho
 | false=>exact r0 rfl ho
theorem wbd {α β:Type} {m:Option α} {f:α → Option β} {o:β} {F:Prop} (ho:Option.bind m f = some o) (r:∀ a,m = some a → f a = some o → F):F:=by
 obtain ⟨a,h1,h2⟩:=bnd ho
 exact r a h1 h2
theorem wal {α β γ:Type} {f:α → Option γ} {g:β → Option γ} {s:α ⊕ β} {o:γ} {F:α ⊕ β → Prop} (ho:alt f g s = some o) (r1:∀ a,f a = some o → F (.inl a)) (r0:∀ b,g b = some o → F (.inr b)):F s:=by
 cases s with
 | inl a=>exact r1 a ho
 | inr b=>exact r0 b ho
def selE (Γ:Env):List Nat → Env
 | []=>[]
 | k :: ks=>match look Γ k with
  | some e=>(k,e) :: selE Γ ks
  | none=>selE Γ ks
theorem sel_n:selE Γ [] = []:=rfl
theorem sel_c {k:Nat} {ks:List Nat} {Γ':Env} (h:look Γ k = some e) (r:selE Γ ks = Γ'):selE Γ (k :: ks) = (k,e) :: Γ':=by
 simp only [selE,h,r]
theorem SEL {p:Prop} (h:p:=by
 repeat first | exact sel_n | (apply sel_c; rfl)
 all_goals fail):p:=h
theorem ALL {p:Prop} (h:p:=by
 repeat first | exact trivial | refine ⟨rfl, ?_⟩
 all_goals fail):p:=h
theorem NE {p:Prop} (h:p:=by
 intro t
 repeat first | exact (fun e=>by cases e) | rcases t with t | t
 all_goals fail):p:=h
theorem wlp {σ τ:Type} {cc:Code} {Γc:Env} {f:σ → Option (σ ⊕ τ)} {N:Nat} {s0:σ} {tt:τ} (hit:iter f N s0 = some tt) (ks:List Nat) (V:σ → List AVal → Sts) (X:τ → AExit × (List AVal → Sts)) (g0:List AVal) (hs:selE Γ ks = Γc) (hin:∀ fr h,St C Γ L fr h → St C ((V s0 g0).1 ++ Γc) (V s0 g0).2 fr h) (hne:∀ t,(X t).1 ≠ .normal)
    (body:∀ s g r,f s = some r → SRun C T cc ((V s g).1 ++ Γc) (V s g).2 (LoopP C (fun s g=>((V s g).1 ++ Γc,(V s g).2)) (fun t=>((X t).1,fun g=>(((X t).2 g).1 ++ Γc,((X t).2 g).2))) r))
    (out:∀ g,∀ fr h,St C (((X tt).2 g).1 ++ Γc) ((X tt).2 g).2 fr h → P (X tt).1 fr h):SRun C T (.loop cc) Γ L P :=
  zg41 (fun s g=>((V s g).1 ++ Γc,(V s g).2)) (fun t=>((X t).1,fun g=>(((X t).2 g).1 ++ Γc,((X t).2 g).2))) f g0 hit hin hne body out
theorem wcx {τ:Type} {cc:Code} {Γc:Env} (tt:τ) (ks:List Nat) (X:τ → AExit × (List AVal → Sts)) (hs:selE Γ ks = Γc) (r:SRun C T cc Γ L (CutP C (fun t=>((X t).1,fun g=>(((X t).2 g).1 ++ Γc,((X t).2 g).2))) tt)) (out:∀ g,∀ fr h,St C (((X tt).2 g).1 ++ Γc) ((X tt).2 g).2 fr h → P (X tt).1 fr h):SRun C T cc Γ L P :=
 r_cut (fun t=>((X t).1,fun g=>(((X t).2 g).1 ++ Γc,((X t).2 g).2))) r out
theorem pk {Γ':Env} {L':Own} (is:List Nat) (q:AllIn Γ Γ':=by exact ALL) (hL:picks L is = L':=by rfl) (hn:is.Nodup:=by decide):∀ fr h,St C Γ L fr h → St C Γ' L' fr h:=fun _ _ s=>s.pick is q hL hn
theorem lf {α:Type} {a:α} {Γ':List AVal → Env} {L':List AVal → Own} (g:List AVal) (is:List Nat) (q:AllIn Γ (Γ' g):=by exact ALL) (hL:picks L is = L' g:=by rfl) (hn:is.Nodup:=by decide):∀ fr h,St C Γ L fr h → a = a ∧ ∃ g,St C (Γ' g) (L' g) fr h:=fun _ _ s=>⟨rfl,g,s.pick is q hL hn⟩
theorem fn {g:FuncId} {F:Func} {c:Code} {as:List TE} {rs:List RE} (run:∀ C,C.B0 = [] → SRun C T c (entry 0 as) [] (RetP C T F.results.toList rs)) (hF:T.funcs.get g = some F:=by rfl) (hb:F.body = some c:=by rfl) (hn:Nat.blt F.ntmps as.length = false:=by rfl):Fun T g as rs:=zh41 hF hb hn run
theorem nx {k:Nat}:(AExit.exit k) ≠ .normal:=fun e=>by cases e
theorem nr:AExit.ret ≠ .normal:=fun e=>by cases e
end
end Go.Ai.Sx

/- Runs of steps that need no word: found by trying. -/
namespace Go.Ai.Sx
structure Hold (q:Prop):Prop where h:q
theorem xcl {p q:Prop} {β:Type} {m:Option β} {o:β} (ho:m = some o) (r:q) (h:m = some o → Hold q → p:=by
 intro ho r
 first
  | (apply wcb ho; intro _; exact EF; exact ED; rfl; exact EW; exact r.h)
  | (apply wco ho; exact EA; rfl; exact EW; exact r.h)):p:=h ho ⟨r⟩
theorem iu {T:Tab} {t:TypeId} {A:Type} {R:Rep A} [h:iU T t R]:Und T t R:=h.u
theorem st {p q:Prop} (r:q) (h:Hold q → p:=by
 intro r
 first
  | (apply wmv; exact EM; exact EW; exact r.h)
  | (apply wsk; exact EN; exact r.h)
  | (apply wsg; exact EM; exact EW; exact r.h)
  | (apply wld; exact EO; exact EW; exact r.h)
  | (apply wfa; exact EO; exact EW; exact r.h)
  | (apply wp1; exact EO; exact EH; exact EO; exact EW; exact r.h)
  | (apply wp0; exact EO; exact EH; exact EO; exact EW; exact r.h)
  | (apply war; exact EO; exact EO; constructor; exact EW; exact r.h)
  | (apply wcm; exact EO; exact EO; constructor; exact EW; exact r.h)
  | (apply wln; exact EO; exact EW; exact r.h)
  | (apply wno; exact EO; exact EW; exact r.h)
  | (apply wex; exact EO; rfl; exact EW; exact r.h)
  | (apply wbx; exact EO; exact EW; exact r.h)
  | (apply wbs; exact EA; rfl; decide; exact EW; exact r.h)
  | (apply wlb; exact EO; exact EL; rfl; rfl; exact EW; exact ER; exact r.h)
  | (apply wle; exact EO; exact EL; exact FOk.self; exact EQ; rfl; exact EW; exact ER; exact r.h)
  | (apply wso; exact EO; exact EL; exact FOk.self; exact EO; exact EQ; rfl; rfl; exact EW; exact r.h)
  | (apply wss; exact EO; exact EL; exact EO; exact EC; rfl; rfl; exact EW; exact r.h)
  | (apply wsb; exact EO; exact EL; exact EO; rfl; rfl; exact Nat.le_of_ble_eq_true rfl; rfl; exact EW; exact r.h)
  | (apply wfr; exact EO; exact EW; exact r.h)
  | (apply wfe; exact EO; exact EW; exact r.h)
  | (apply wlo; exact EO; exact EL; exact EW; exact r.h)
  | (apply wnk; exact EO; exact EW; exact r.h)
  | (apply wnr; exact EO; exact EW; exact r.h)
  | (apply wfd; exact EO; exact EW; rfl; exact r.h)
  | (apply wsn; exact EN; exact r.h)
  | (apply wbe; exact EO; exact EO; exact EW; exact r.h)
  | (apply wbn; exact EO; exact EO; exact EW; exact r.h)
  | (apply wse; exact EO; exact EO; exact EW; exact r.h)
  | (apply wne; exact EO; exact EO; exact EW; exact r.h)
  | (apply wbu; exact EB; exact EW; exact r.h)
  | (apply wng; exact EO; exact EW; exact r.h)
  | (apply wcv; exact EO; exact EW; exact r.h)
  | (apply wmx; exact EO; exact EO; exact EW; exact r.h)
  | (apply wmn; exact EO; exact EO; exact EW; exact r.h)):p:=h ⟨r⟩
theorem sp {p q:Prop} (r:q) (h:Hold q → p:=by
 intro r
 first
  | (apply wix; exact EO; exact EO; exact EQ; exact EW; exact r.h)
  | (apply wio; exact EO; exact EL; exact EO; exact EQ; exact EW; exact r.h)
  | (apply wdv; exact EO; exact EO; exact EQ; exact EW; exact r.h)
  | (apply wrm; exact EO; exact EO; exact EQ; exact EW; exact r.h)
  | (apply wsl; exact EO; exact EO; exact EQ; exact EW; exact r.h)
  | (apply wsr; exact EO; exact EO; exact EQ; exact EW; exact r.h)
  | (apply wsc; exact EO; exact ES; exact ES; exact EQ; exact EW; exact r.h)
  | (apply win; exact EO; exact EO; exact EQ; exact EW; exact r.h)
  | (apply wia; exact EO; exact EL; exact EO; exact EQ; exact EW; exact r.h)):p:=h ⟨r⟩
structure Cn (n:Nat):Prop where t:True
theorem Cn.dec {n:Nat} (_:Cn (n + 1)):Cn n:=⟨trivial⟩
theorem run {p q:Prop} (n:Nat) (r:q) (h:Cn n → Hold q → p:=by
 intro hn r
 repeat (replace hn:=hn.dec; first | refine st ?_ | refine sp ?_ | refine wnq ?_ | refine r_seq ?_ | refine zh12 ?_ | refine zc29 ?_ | refine ze29 rfl ?_ | refine za3 [] (by kernel_rfl) ?_ | refine zd29 rfl ?_ | refine zt33 rfl ?_)
 exact r.h):p:=h ⟨trivial⟩ ⟨r⟩
theorem RET {p:Prop} (h:p:=by
 repeat first | exact .n | (apply Rets.v; rfl) | (apply Rets.c; exact iu; rfl) | (apply Rets.r; rfl; exact EL)
 all_goals fail):p:=h
theorem w {α:Type} {m:Option α} {v:α} {p:Prop} (ho:m = some v) (h:m = some v → p:=by
 intro ho
 repeat' first
  | refine st ?_
  | (apply wbd ho; intro _ _ ho; refine sp ?_)
  | (apply wcb ho; intro _; exact EF; exact ED; rfl; exact EW; intro _ _ ho)
  | (apply wco ho; exact EA; rfl; exact EW; intro _ _ ho)
  | refine wrr ?_ | refine wnq ?_ | refine r_seq ?_ | refine zh12 ?_ | refine za3 [] (by kernel_rfl) ?_ | refine ze29 rfl ?_ | refine zc29 ?_ | refine zd29 rfl ?_
  | refine wct ho (fun _ ho=>?_) (fun _ ho=>?_)
  | (cases ho; exact s_nil (lf [] []))
  | (cases ho; exact zp1 (lf [] []))
  | (cases ho; exact r_ret (lf [] []))
  | (cases ho; exact za36 (lf [] []))
  | (cases ho; apply r_ret; apply zm; exact .inr rfl; exact RET; decide)
  | (cases ho; apply s_nil; apply zm; exact .inl rfl; exact RET; decide)
  | refine wbr ho (fun _ ho=>?_) (fun _ ho=>?_)):p:=h ho
end Go.Ai.Sx
