/- What this seat's program knows of itself: math.Sqrt. -/
import Derived.Test.YtfamdelkpempgaaGreatW6
import Derived.Test.YtfamdelkpempgaaGreatW7
set_option linter.unusedSimpArgs false
set_option linter.unusedVariables false
set_option linter.unusedSectionVars false
open Option renaming some→Ob
namespace Go.Ai.TabYtfamdelkpempgaaGreat
open Go Go.Ai Go.Ai.Sx Go.Proofs
noncomputable def ktab:Tab:={ tab with consts:=tab.consts.set 175 zrh }
theorem zsH {xs:List zb} {v:zb} (h:zrh xs=Ob v):∃ b r,xs=[.float .f64 b]/\v=.float .f64 r/\FloatKind.f64.format.sqrt b=Ob r:=by
 unfold zrh at h;split at h
 . rename_i b;cases e:FloatKind.f64.format.sqrt b with
   | none=>rw [e] at h; cases h
   | some r=>rw [e] at h; cases h; exact ⟨b,r,rfl,rfl,e⟩
 . cases h
theorem zxs:ktab.Ok Tryz.prog:=zzV.prim ⟨Tryz.f175,Tryz.func175,by kernel_rfl,by kernel_rfl⟩ λxs v h V xs' w hx=>by
 obtain ⟨b,r,rfl,rfl,hr⟩:=zsH h;have hlen:=hx.1;have hat:=hx.2;cases hl:xs'.toList with
 | nil=>rw [hl] at hlen; cases hlen
 | cons x0 rest=>
  have hrest:rest=[]:=by
   rw [hl] at hlen;cases rest with
   | nil=>rfl
   | cons y r=>simp at hlen
  subst hrest;have h0:=hat 0 (.float .f64 b) x0 rfl (by rw [hl]; rfl);cases h0;have e2:xs'=#[.float .f64 b]:=Array.toList_inj.1 hl;rw [e2];exact (zrf hr w).mono λe w' ⟨h1,h2⟩=>⟨_,h1,.float .f64 r,h2⟩
end Go.Ai.TabYtfamdelkpempgaaGreat