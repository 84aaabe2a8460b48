/- Loading a whole box in which some rows are still nil. -/
import Derived.Test.YtppebpagcocogaaGreatU5
set_option linter.unusedSimpArgs false
set_option linter.unusedVariables false
set_option linter.unusedSectionVars false
namespace Go.Ai.Sx
def zhy {A:Type} (R:Rep A) (a:A) (es:List TE):Prop:=∀ z cs,zz z es cs->R.rel z cs a
theorem zya {A:Type} {R:Rep A} {a:A} (h:R.agg=false):zhy R a [.val R a]:=λz cs=>(zt h z cs).2
theorem ztj {A:Type} {R:Rep A}:zhy (zb R) [] [.raw .nilslice]:=λz cs h=>by
 simp only [zz] at h;obtain ⟨v,vs,rfl,h1,rfl⟩:=h;simp only [TE.ok] at h1;subst h1;have:=(zbP (R:=R) (z:=z) zhm).rel;simpa [ze.cells] using this
theorem zvs:zhy zcR () []:=λz cs=>(za7 z cs).2
theorem zmB {A B:Type} {R:Rep A} {S:Rep B} {a:A} {b:B} {es fs:List TE} (h1:zhy R a es) (h2:zhy S b fs):zhy (zH R S) (a,b) (es++fs):=by
 intro z cs;rw [zdv]
 rintro ⟨c1,c2,rfl,h3,h4⟩; exact ⟨c1,c2,rfl,h1 _ _ h3,h2 _ _ h4⟩
section
variable {C:Ctx} {T:Tab} {d:Option (List Nat)} {ops rest:List Oper} {Γ:Env} {L:Own} {Q:zf->za->Prop} {o:Oper} {t:Nat}
theorem zvt {A:Type} {R:Rep A} {a:A} {et:TypeId} {x:Operand} {b:Nat} {es:List TE} (k:Nat) (hls:Listed d ops rest) (hu:Und T et R) (hc:zhy R a es) (hw:Want ops Γ true o.guard) (ho:o.op=.load et x) (hd:o.dst=some t) (hx:Opd Γ x (.raw (.ptr b 0))) (hk:L[k]?=some (.ptr b 0,.box es))
 (r:zr C T d ops rest ((t,.val R a)::Γ) L Q):zr C T d ops (o::rest) Γ L Q:=by
 refine zeS (.l hls (by rw [ho]; rfl) (by rw [ho]; rfl)) (λz fr h s=>by
  rw [show foot fr.op o=⟨zK (fr.op x),false,[],false⟩ by unfold foot; rw [ho]];exact ⟨λb' hb=>zgX s hk rfl b' (by simpa [zK,hx.raw s.fr] using hb),λb hb=>(nomatch hb)⟩) hw hd (λz fr h s=>?_) r
 have hob:=s.own.ok _ (List.mem_of_getElem? hk);simp only [Obj.ok] at hob;obtain ⟨b',cells,q',h2,h3,h4⟩:=hob;cases q';have hr:=hc z cells h3;have hl:=R.len _ _ _ hr;obtain ⟨v,h5,h6⟩:=zeu (off:=0) (cells:=cells) hu.sz hu.agg (by omega) (by rw [List.drop_zero,← hl,List.take_length]; exact hr);refine ⟨v, ?_,by simp only [TE.ok]; exact h6⟩;rw [ho];simp only [aop,hx.raw s.fr,aload,h2,h5,zS,Option.map]
end
end Go.Ai.Sx