/- service.Connect defers a closure that recovers: how it is made. -/
import Derived.Test.YtppebpagcocogaaGreatU6
import Derived.Test.YtppebpagcocogaaGreatU7
import Derived.KernelRfl
set_option linter.unusedSimpArgs false
set_option linter.unusedVariables false
set_option linter.unusedSectionVars false
namespace Go.Ai.TabYtppebpagcocogaaGreat
open Go Go.Ai Go.Ai.Sx Go.Proofs
noncomputable def D43:zbO:=zAc Tryz.f43 Tryz.f86 86 34 5 2
set_option maxRecDepth 100000 in
theorem zAg:zq0 Tryz.prog 43 D43 where
 fn:=⟨Tryz.f43,Tryz.func43,by kernel_rfl,by kernel_rfl,by kernel_rfl,by kernel_rfl⟩
 pre:=by kernel_rfl
 post:=by kernel_rfl
 mko:=⟨by kernel_rfl,of_decide_eq_true (by kernel_rfl),by kernel_rfl,by kernel_rfl⟩
 dfr:=⟨by kernel_rfl,by kernel_rfl,⟨.value (.tmp 34),#[],#[]⟩,by kernel_rfl,rfl,rfl⟩
 clo:=⟨Tryz.f86,Tryz.func86,by kernel_rfl,by kernel_rfl,by kernel_rfl,by kernel_rfl⟩
 rop:=⟨by kernel_rfl,of_decide_eq_true (by kernel_rfl),by kernel_rfl,⟨.builtin .recover,#[],#[]⟩,by kernel_rfl,rfl,rfl⟩
 mop:=⟨by kernel_rfl,of_decide_eq_true (by kernel_rfl),by kernel_rfl,by kernel_rfl⟩
 rest:=by kernel_rfl
end Go.Ai.TabYtppebpagcocogaaGreat
/- What this seat's program knows of itself: math.Sqrt. -/
namespace Go.Ai.TabYtppebpagcocogaaGreat
open Go Go.Ai Go.Ai.Sx Go.Proofs
noncomputable def ktab:Tab:={ tab with consts:=tab.consts.set 188 zoE,defs:=tab.defs.set 43 D43 }
theorem zr6 {xs:List ze} {v:ze} (h:zoE xs=some v):∃ b r,xs=[.float .f64 b]/\v=.float .f64 r/\FloatKind.f64.format.sqrt b=some r:=by
 unfold zoE at h;split at h
 . rename_i b;cases e:FloatKind.f64.format.sqrt b with
   | none=>rw [e] at h; cases h
   | some r=>rw [e] at h; cases h; exact ⟨b,r,rfl,rfl,e⟩
 . cases h
theorem zus:Tab.Ok { tab with consts:=tab.consts.set 188 zoE } Tryz.prog:=zyX.prim ⟨Tryz.f188,Tryz.func188,by kernel_rfl,by kernel_rfl⟩ λxs v h ρ xs' w hx=>by
 obtain ⟨b,r,rfl,rfl,hr⟩:=zr6 h;have hlen:=hx.1;have hat:=hx.2;cases hl:xs'.toList with
 | nil=>rw [hl] at hlen; cases hlen
 | cons x0 rest=>
  have hrest:rest=[]:=by
   rw [hl] at hlen;cases rest with
   | nil=>rfl
   | cons y r=>simp at hlen
  subst hrest;have h0:=hat 0 (.float .f64 b) x0 rfl (by rw [hl]; rfl);cases h0;have e2:xs'=#[.float .f64 b]:=Array.toList_inj.1 hl;rw [e2];exact (zqy hr w).mono λe w' ⟨h1,h2⟩=>⟨_,h1,.float .f64 r,h2⟩
theorem zoG:ktab.Ok Tryz.prog:=zus.defd zAg
end Go.Ai.TabYtppebpagcocogaaGreat