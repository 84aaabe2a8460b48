/- What this seat's program knows of itself: math.Sqrt. -/
import Derived.Test.YtnngmijajnldlaaGreatX6
import Derived.Test.YtnngmijajnldlaaGreatX7
set_option linter.unusedSimpArgs false
set_option linter.unusedVariables false
set_option linter.unusedSectionVars false
open Option renaming some→Ob
namespace Go.Ai.TabYtnngmijajnldlaaGreat
open Go Go.Ai Go.Ai.Sx Go.Proofs
noncomputable def ktab:Tab:={ tab with consts:=tab.consts.set 129 zqQ }
theorem zsq {xs:List zd} {v:zd} (h:zqQ xs=Ob v):∃ b r,xs=[.float .f64 b]/\v=.float .f64 r/\FloatKind.f64.format.sqrt b=Ob r:=by
 unfold zqQ at h;split at h
 . rename_i b;cases e:FloatKind.f64.format.sqrt b with
   | none=>rw [e] at h; cases h
   | some r=>rw [e] at h; cases h; exact ⟨b,r,rfl,rfl,e⟩
 . cases h
theorem zxa:ktab.Ok Tryz.prog:=zzE.prim ⟨Tryz.f129,Tryz.func129,by kernel_rfl,by kernel_rfl⟩ λxs v h G xs' w hx=>by
 obtain ⟨b,r,rfl,rfl,hr⟩:=zsq h;have hlen:=hx.1;have hat:=hx.2;cases hl:xs'.toList with
 | nil=>rw [hl] at hlen; cases hlen
 | cons x0 rest=>
  have hrest:rest=[]:=by
   rw [hl] at hlen;cases rest with
   | nil=>rfl
   | cons y r=>simp at hlen
  subst hrest;have h0:=hat 0 (.float .f64 b) x0 rfl (by rw [hl]; rfl);cases h0;have e2:xs'=#[.float .f64 b]:=Array.toList_inj.1 hl;rw [e2];exact (zqP hr w).mono λe w' ⟨h1,h2⟩=>⟨_,h1,.float .f64 r,h2⟩
end Go.Ai.TabYtnngmijajnldlaaGreat