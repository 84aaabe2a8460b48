/- Rows of rows of one's own,made at once; such rows in boxes. -/
import Derived.Test.YtnngmijajnldlaaGreatX7
set_option linter.unusedSimpArgs false
set_option linter.unusedVariables false
set_option linter.unusedSectionVars false
open Option renaming some→Ob
open Bool renaming true→Od
namespace Go.Ai.Sx
def nils {A:Type} (xss:List A):List zd:=xss.map λ_=>.nsz
section
variable {C:Ctx} {T:Tab} {d:Option (List Nat)} {ops rest:List Oper} {M:Env} {L:Own} {Q:zi->za->Prop} {o:Oper} {t:Nat} {fr:zi} {h:za}
theorem ztK {et:TypeId} (h:zeS T et=Ob .nsz):Zr T et zhH .nsz:=⟨⟨.nsz,h,λ_=>⟨⟨rfl,rfl,rfl⟩,rfl⟩⟩⟩
theorem ztL {A:Type} {bytes:Nat} {n:Int} {xss:List (List A)} (h:mkO bytes n ([]:List A)=Ob xss):mkO bytes n zd.nsz=Ob (nils xss)/\∀ xs,xs∈xss->xs=[]:=by
 unfold mkO at h ⊢;split at h
 . rename_i q;cases h;rw [if_pos q];exact ⟨by simp [nils],λxs hx=>(List.mem_replicate.1 hx).2⟩
 . cases h
theorem zvQ {A:Type} (R:Rep A) (xss:List (List A)) (hx:∀ xs,xs∈xss->xs=[]):∀ z fr h,StZ C M L z fr h->∃ z',z.le z'/\StZ C M ((.undef,pack R (nils xss) xss)::L) z' fr h:=λz fr h s=>
 ⟨z,.refl _,s.repack (by
  rw [zR,zit];have:((nils xss).flatMap λv=>(zhm v).toList)=[]:=by
   rw [List.flatMap_eq_nil_iff];intro v hv;obtain ⟨_,_,rfl⟩:=List.mem_map.1 hv;rfl
  rw [this]; exact .refl _) (λp hp=>by
  rcases List.mem_cons.1 hp with rfl | hp
  ·refine zoN (by simp [nils]) (λi v xs hv hxs=>?_);have:=hx xs (List.mem_of_getElem? hxs);subst this;obtain ⟨_,_,rfl⟩:=List.mem_map.1 (List.mem_of_getElem? hv);exact ⟨by simp [maxLen],.inl ⟨rfl,rfl⟩⟩
  ·exact s.own.ok p hp)⟩
theorem zBY {A:Type} {R:Rep A} {bytes:Nat} {st et:TypeId} {l c:Operand} {n:Int} {xss:List (List A)} (hsl:Sl T st et zhH) (hty:Ty T et zhH bytes) (hz:Zr T et zhH .nsz) (hm:mkO bytes n ([]:List A)=Ob xss) (hw:Want ops M Od o.guard) (ho:o.op=.makeSlice st l c) (hd:o.dst=Ob t) (hl:Opd M l (.val (zh .i64) n)) (hc:Opd M c (.val (zh .i64) n))
 (r:∀ v,zm C T d ops rest ((t,.raw v)::M) ((v,.row zhH (nils xss))::(.undef,pack R (nils xss) xss)::L) Q):zm C T d ops (o::rest) M L Q:=
 zdh (zvQ R xss (ztL hm).2) (zB9 hsl hty hz (ztL hm).1 hw ho hd hl hc r)
theorem zyN {A:Type} {R:Rep A} {u v:zd} {hs:List zd} {xss:List (List A)} {xs ws:List A} {i:Nat} (k m:Nat) {L' L'':Own} (hk:L[k]?=Ob (v,.row R xs)) (hL:zcR L k=Ob L') (hm:L'[m]?=Ob (u,pack R (hs.eraseIdx i) (xss.eraseIdx i))) (hL':zcR L' m=Ob L'') (hv:hs[i]?=Ob v) (hx:xss[i]?=Ob ws) :
 ∀ z fr h,StZ C M L z fr h->∃ z',z.le z'/\StZ C M ((u,pack R hs (xss.set i xs))::L'') z' fr h:=λz fr h s=>by
 have:=zv0 (w:=v) (ws:=ws) (R:=R) k m hk hL hm hL' hv hx z fr h s;rw [set_same hv] at this;exact this
theorem StZ.freezePack {A:Type} {R:Rep A} {u:zd}:∀ {hs:List zd} {xss:List (List A)} {z:Store},StZ C M ((u,pack R hs xss)::L) z fr h->∃ z',z.le z'/\StZ C M L z' fr h/\∀ (i:Nat) (v:zd) (ys:List A),hs[i]?=Ob v->xss[i]?=Ob ys->zg0 R z' v ys
 | [],_,z,s=>⟨z,.refl _,s.drop (k:=0) rfl,λi v ys hv=>by simp at hv⟩
 | _::_,[],z,s=>⟨z,.refl _,s.drop (k:=0) rfl,λi v ys _ hy=>by simp at hy⟩
 | v::hs,ys::xss,z,s=>by
  obtain ⟨z0,h0,s1⟩:=zoO (R:=R) (i:=0) 0 (L':=L) rfl rfl rfl rfl z fr h s;obtain ⟨z1,h1,s2,r1⟩:=s1.freeze (k:=0) rfl rfl;obtain ⟨z2,h2,s3,r2⟩:=freezePack (hs:=hs) (xss:=xss) s2;refine ⟨z2,h0.trans (h1.trans h2),s3,λi w zs hw hz=>?_⟩;cases i with
  | zero=>
   simp only [List.getElem?_cons_zero,Option.some.injEq] at hw hz;subst hw hz;exact zfX ((zbU r1).mono h2)
  | succ i=>exact r2 i w zs (by simpa using hw) (by simpa using hz)
theorem zrg {A:Type} {R:Rep A} {u v:zd} {hs:List zd} {xss:List (List A)} (k m:Nat) {L1 L2:Own} (hm:L[m]?=Ob (u,pack R hs xss)) (hL:zcR L m=Ob L1) (hk:L1[k]?=Ob (v,.row zhH hs)) (hL':zcR L1 k=Ob L2) :
 ∀ z fr h,StZ C M L z fr h->∃ z',z.le z'/\StZ C M ((v,.row (zb R) xss)::L2) z' fr h:=λz fr h s=>by
 have hp:=zce hm hL;have hlen:=(zjO (s.own.ok _ (List.mem_of_getElem? hm))).1;have s0:StZ C M ((u,pack R hs xss)::L1) z fr h:=s.repack (zgh hp) (λp q=>s.own.ok p (hp.mem_iff.1 q));obtain ⟨z',hz,s1,r⟩:=s0.freezePack;have hp':=zce hk hL';refine ⟨z',hz,s1.repack ?_ (λp q=>?_)⟩
 . refine List.Perm.trans ?_ (zgh hp');rw [zR,zR];exact .refl _
 . rcases List.mem_cons.1 q with rfl | q
   . have ho:=s1.own.ok _ (List.mem_of_getElem? hk);simp only [Obj.ok] at ho ⊢;obtain ⟨h0,h1⟩:=ho;refine ⟨by omega, ?_⟩;rcases h1 with ⟨rfl,rfl⟩ | ⟨b,off,cap,cells,e,g1,g2,g3,g4⟩
     . refine .inl ⟨rfl, ?_⟩;cases xss with
       | nil=>rfl
       | cons _ _=>simp at hlen
     . refine .inr ⟨b,off,cap,cells,by rw [e,hlen]; rfl,g1,by rw [← hlen]; exact g2,λc hc=>by rw [← hlen]; exact g3 c hc,λi ys hy=>?_⟩;have hi:i<hs.length:=by rw [hlen]; exact (List.getElem?_eq_some_iff.1 hy).1
       have hv:=List.getElem?_eq_getElem hi;have:=g4 i _ hv;exact ⟨_,this.1,r i _ ys hv hy⟩
   . exact s1.own.ok p (hp'.mem_iff.1 (List.mem_cons_of_mem _ q))
end
end Go.Ai.Sx