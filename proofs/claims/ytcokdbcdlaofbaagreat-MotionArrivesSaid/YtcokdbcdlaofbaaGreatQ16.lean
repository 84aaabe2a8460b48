/- Tracks: which moves follow; ways and their lengths. -/
import Derived.Test.YtcokdbcdlaofbaaGreatQ15
set_option linter.unusedSimpArgs false
set_option linter.unusedVariables false
set_option linter.unusedSectionVars false
namespace Go.Ai.Sx
def arrS (m:AMove):RailEnd:=(m.1,!m.2.1,())
def nodeOf (p:Plan) (m:AMove):ANode:=nd p (atS p (arrS m))
def posS (p:Plan) (m:AMove):Int:=((nodeOf p m).2.2.1.idxOf (arrS m):Nat)
def followsB (p:Plan) (m k:AMove):Bool:=(nodeOf p m).2.2.1.zipIdx.any fun y=>letsB (nodeOf p m) (posS p m) (y.2:Int) && y.1 == k
def numS (e:RailEnd):Int:=if e.2.1 then 2 * e.1 + 1 else 2 * e.1
def mvOf (n:Int):AMove:=(n / 2,n % 2 == 1,())
theorem zn25 {e:RailEnd} (h:0 ≤ e.1):mvOf (numS e) = e:=by
 obtain ⟨r,b,⟨⟩⟩:=e
 unfold mvOf numS
 simp only [] at h
 cases b with
 | false =>
  simp only [Bool.false_eq_true,if_false]
  rw [show 2 * r / 2 = r by omega,show 2 * r % 2 = 0 by omega]; rfl
 | true =>
  simp only [if_true]
  rw [show (2 * r + 1) / 2 = r by omega,show (2 * r + 1) % 2 = 1 by omega]; rfl
theorem zm31 {e:RailEnd} (h:0 ≤ e.1 ∧ e.1 < 1000):zq5 (e.1,e.2.1,()) = some (numS e):=by
 unfold zq5 numS
 simp only []
 cases e.2.1 with
 | false =>
  simp only [cond_false,Bool.false_eq_true,if_false]
  rw [zh (by omega) (by omega)]
 | true =>
  simp only [cond_true,if_true]
  rw [zh (n:=2 * e.1) (by omega) (by omega),zh (by omega) (by omega)]
theorem zd40 {n:Int} (h:0 ≤ n ∧ n < 10000):zd7 n = some (mvOf n):=by
 unfold zd7
 rw [zm5 (by omega) (by omega),Option.bind_some]
 unfold remO
 rw [if_neg (by omega),Option.bind_some,Int.tmod_eq_emod_of_nonneg h.1]
 rfl
section
variable {p:Plan} (hp:PlOk p) {m:AMove} (hm:0 ≤ m.1 ∧ m.1 < p.2.1.length)
include hp hm
theorem zi22:0 ≤ atS p (arrS m) ∧ atS p (arrS m) < p.1.length:=hp.at_bd (e:=arrS m) hm
theorem zs16:nodeB (nodeOf p m) = true:=hp.nodeB (zi22 hp hm)
theorem zw23:arrS m ∈ (nodeOf p m).2.2.1:=hp.mem (e:=arrS m) hm
theorem zh36:0 ≤ posS p m ∧ posS p m < (nodeOf p m).2.2.1.length ∧ posS p m ≤ 10:=by
 have h1:=List.idxOf_lt_length_iff.2 (zw23 hp hm)
 have h2:=zd8 (zs16 hp hm)
 unfold posS
 omega
theorem zr14 {e:RailEnd} (he:e ∈ (nodeOf p m).2.2.1):0 ≤ e.1 ∧ e.1 < p.2.1.length:=by
 have hb:=zi22 hp hm
 have h:=hp.at_ (atS p (arrS m)).toNat (by omega)
 unfold nodeOf at he
 rw [hp.nd_eq hb] at he
 exact (h e he).1
theorem zn31:mget (plS p) (arrS m) = some (posS p m):=by
 have hb:=zi22 hp hm
 have h1:=List.idxOf_lt_length_iff.2 (zw23 hp hm)
 have hn:nodeOf p m = p.1[(atS p (arrS m)).toNat]'(by omega):=hp.nd_eq hb
 have h2:=za40 hp (i:=(atS p (arrS m)).toNat) (k:=(nodeOf p m).2.2.1.idxOf (arrS m)) (by omega) (by rw [← hn]; exact h1)
 have h3:(p.1[(atS p (arrS m)).toNat]'(by omega)).2.2.1[(nodeOf p m).2.2.1.idxOf (arrS m)]'(by rw [← hn]; exact h1) = arrS m:=by
  simp only [← hn]
  exact List.getElem_idxOf h1
 rw [h3] at h2
 exact h2
def numsS (p:Plan) (m:AMove):List Int:=((nodeOf p m).2.2.1.zipIdx.filter fun y=>letsB (nodeOf p m) (posS p m) (y.2:Int)).map fun y=>numS y.1
omit hm hp in
theorem zo31:(numsS p m).length ≤ (nodeOf p m).2.2.1.length:=by
 unfold numsS
 rw [List.length_map]
 have:=List.length_filter_le (fun y:RailEnd × Nat=>letsB (nodeOf p m) (posS p m) (y.2:Int)) (nodeOf p m).2.2.1.zipIdx
 rw [List.length_zipIdx] at this
 exact this
theorem zd35 {n:Int} (h:n ∈ numsS p m):0 ≤ n ∧ n < 10000:=by
 unfold numsS at h
 obtain ⟨y,hy,rfl⟩:=List.mem_map.1 h
 have h1:=(List.mem_filter.1 hy).1
 have h2:=zr14 hp hm (e:=y.1) (List.fst_mem_of_mem_zipIdx h1)
 have hR:=hp.r
 unfold numS
 split <;> omega
theorem zp31:iter (σ:=((List Int) × Int)) (τ:=((List Int))) (fun s20 =>
cond ((decide (s20.2 < (lenI (nodeOf p m).2.2.1)))) (Option.bind (idx (nodeOf p m).2.2.1 s20.2) fun x23 =>
Option.bind (zv5 m) fun y27 =>
Option.bind (ze3 (((nodeOf p m,()):zk1)) (((mget (netW p).2.2.1 y27).getD 0)) s20.2) fun y28 =>
cond (y28) (Option.bind (zq5 (((x23.1,x23.2.1,()):AMove))) fun y30 =>
Option.bind (appO 8 s20.1 ([y30])) fun x31 =>
some (.inl ((x31,(w64 (s20.2 + 1)))))) (some (.inl ((s20.1,(w64 (s20.2 + 1))))))) (some (.inr s20.1))) big (([],0)) = some (numsS p m):=by
 have hR:=hp.r
 have hes:=zd8 (zs16 hp hm)
 have hpb:=zh36 hp hm
 rw [zb6 (s0:=(([]:List Int),(0:Int))) (nodeOf p m).2.2.1 (fun k c=>(c,(k:Int))) (fun k c e=>(.inl (if letsB (nodeOf p m) (posS p m) (k:Int) then c ++ [numS e] else c):List Int ⊕ List Int)) id (fun k c=>c.length ≤ k) [] rfl (by omega) (by simp)]
 ·rw [zk16 (fun k c e=>if letsB (nodeOf p m) (posS p m) (k:Int) then c ++ [numS e] else c) id]
  unfold numsS
  have key:∀ (L:List (RailEnd × Nat)) (c:List Int),L.foldl (fun c y=>if letsB (nodeOf p m) (posS p m) (y.2:Int) then c ++ [numS y.1] else c) c = c ++ (L.filter fun y=>letsB (nodeOf p m) (posS p m) (y.2:Int)).map fun y=>numS y.1:=by
   intro L
   induction L with
   | nil=>intro c; simp
   | cons y L ih =>
    intro c
    rw [List.foldl_cons,ih,List.filter_cons]
    cases letsB (nodeOf p m) (posS p m) (y.2:Int) with
    | true=>simp
    | false=>simp
  rw [key,List.nil_append]; rfl
 ·intro k hk c hc
  simp only []
  refine ⟨?_,fun b' hb=>?_⟩
  ·have he:=zr14 hp hm (List.getElem_mem hk)
   rw [zr1 hk,cond_true,zr3 hk,Option.bind_some]
   show Option.bind (some (arrS m)) _ = _
   rw [Option.bind_some]
   have hpl:(netW p).2.2.1 = plS p:=rfl
   rw [hpl,zn31 hp hm,Option.getD_some,zc40 (zs16 hp hm) ⟨hpb.1,hpb.2.2⟩ (by omega),Option.bind_some,zm31 (e:=(nodeOf p m).2.2.1[k]) ⟨he.1,by omega⟩,Option.bind_some,zf5 (by simp only [List.length_singleton]; omega),Option.bind_some,zc1 (by omega)]
   cases letsB (nodeOf p m) (posS p m) (k:Int) <;> rfl
  ·cases hb
   split
   ·rw [List.length_append,List.length_singleton]; omega
   ·omega
 ·intro c _
  simp only []
  rw [zb2,cond_false]; rfl
theorem zo27 (k:AMove):zq2 (netW p) m k = some (followsB p m k):=by
  have hb:=zi22 hp hm
  have hes:=zd8 (zs16 hp hm)
  have hlen:=zo31 (p:=p) (m:=m)
  obtain ⟨ys,hy,hperm⟩:=zk31 (xs:=numsS p m) (by omega)
  unfold zq2 za5 zl3
  rw [Option.bind_some]
  simp only []
  show Option.bind (Option.bind (some (arrS m)) _) _ = _
  rw [Option.bind_some]
  have hend:=(zq12 (p:=(netW p).1) (e:=arrS m) hm).1
  have hpl:atS (netW p).1 (arrS m) = atS p (arrS m):=rfl
  rw [hend,Option.bind_some,hpl]
  have hn:idx (netW p).1.1 (atS p (arrS m)) = some (nodeOf p m):=zi6 (l:=p.1) (d:=N0) hb.1 hb.2
  rw [hn,Option.bind_some,zp31 hp hm,Option.bind_some,hy,Option.bind_some]
  have hys:∀ n ∈ ys,0 ≤ n ∧ n < 10000:=fun n h=>zd35 hp hm (hperm.mem_iff.1 h)
  have hyl:ys.length ≤ 4:=by have:=hperm.length_eq; omega
  have key:iter (σ:=(Int × (Bool ⊕ Bool))) (τ:=((Bool ⊕ Bool)) ⊕ (((Bool ⊕ Bool)))) (fun s50 =>
cond ((decide (s50.1 < (lenI ys)))) (Option.bind (idx ys s50.1) fun x53 =>
Option.bind (zd7 x53) fun y54 =>
Option.bind (goL s50.2) fun s55 =>
Option.bind (cond ((y54 == k)) (some (.inr true)) (some (.inl s55))) fun y56 =>
cond ((!(y56).isLeft)) (some (.inr ((.inr y56)))) (some (.inl (((w64 (s50.1 + 1)),y56))))) (some (.inr ((.inl s50.2))))) big ((0,(.inl false))) = some (if ys.any (fun n=>mvOf n == k) then .inr (.inr true) else .inl (.inl false)):=by
    rw [zb6 (s0:=((0:Int),(Sum.inl false:Bool ⊕ Bool))) ys (fun i (_:Unit)=>((i:Int),(Sum.inl false:Bool ⊕ Bool))) (fun _ _ n=>if mvOf n == k then .inr (.inr (.inr true)) else .inl ()) (fun _=>.inl (.inl false)) (fun _ _=>True) () rfl (by omega) trivial]
    · congr 1
      have:∀ (l:List Int) (i:Nat),foldE (fun _ (_:Unit) n=>if mvOf n == k then .inr (.inr (.inr true)) else .inl ()) (fun _=>.inl (.inl false)) l i () = (if l.any (fun n=>mvOf n == k) then .inr (.inr true) else .inl (.inl false):(Bool ⊕ Bool) ⊕ (Bool ⊕ Bool)):=by
        intro l
        induction l with
        | nil=>intro i; rfl
        | cons n l ih =>
          intro i
          rw [foldE,List.any_cons]
          cases h:(mvOf n == k) with
          | true=>rfl
          | false =>
            simp only [Bool.false_eq_true,if_false,Bool.false_or]
            exact ih (i + 1)
      exact this ys 0
    · intro i hi _ _
      refine ⟨?_,fun _ _=>trivial⟩
      simp only []
      rw [zr1 hi,cond_true,zr3 hi,Option.bind_some,zd40 (hys _ (List.getElem_mem hi)),Option.bind_some,zc1 (by omega)]
      cases (mvOf ys[i] == k) <;> rfl
    · intro _ _
      simp only []
      rw [zb2,cond_false]
  rw [key]
  have hany:ys.any (fun n=>mvOf n == k) = followsB p m k:=by
    have h1:ys.any (fun n=>mvOf n == k) = (numsS p m).any (fun n=>mvOf n == k):=by
      rw [Bool.eq_iff_iff,List.any_eq_true,List.any_eq_true]
      constructor
      · rintro ⟨n,h,q⟩; exact ⟨n,hperm.mem_iff.1 h,q⟩
      · rintro ⟨n,h,q⟩; exact ⟨n,hperm.mem_iff.2 h,q⟩
    rw [h1]
    unfold numsS followsB
    rw [Bool.eq_iff_iff,List.any_eq_true,List.any_eq_true]
    constructor
    · rintro ⟨n,h,q⟩
      obtain ⟨y,hy,rfl⟩:=List.mem_map.1 h
      obtain ⟨hy1,hy2⟩:=List.mem_filter.1 hy
      rw [zn25 (zr14 hp hm (List.fst_mem_of_mem_zipIdx hy1)).1] at q
      exact ⟨y,hy1,by rw [hy2,q]; rfl⟩
    · rintro ⟨y,h,q⟩
      rw [Bool.and_eq_true] at q
      refine ⟨numS y.1,List.mem_map.2 ⟨y,List.mem_filter.2 ⟨h,q.1⟩,rfl⟩, ?_⟩
      rw [zn25 (zr14 hp hm (List.fst_mem_of_mem_zipIdx h)).1]
      exact q.2
  rw [hany]
  cases followsB p m k <;> rfl
omit hp hm in
theorem zj22 (n:ANode) (e:RailEnd) (hl:n.2.2.1.length ≤ 1000):zq4 n e = some (if e ∈ n.2.2.1 then ((n.2.2.1.idxOf e:Nat):Int) else -1):=by
  unfold zq4
  have key:∀ (k i:Nat),i + k = n.2.2.1.length → Lp (fun s5:Int =>
cond ((decide (s5 < (lenI n.2.2.1)))) (Option.bind (idx n.2.2.1 s5) fun x9 =>
cond ((x9 == e)) (some (Sum.inr ((Sum.inr s5:Unit ⊕ Int)))) (some (.inl ((w64 (s5 + 1)))))) (some (.inr ((.inl (())))))) k (i:Int) (if e ∈ n.2.2.1.drop i then .inr ((i + (n.2.2.1.drop i).idxOf e:Nat):Int) else .inl ()):=by
    intro k
    induction k with
    | zero =>
      intro i hi
      have:i = n.2.2.1.length:=by omega
      subst this
      rw [List.drop_length,if_neg (by simp)]
      exact Lp.done (by simp only [zb2,cond_false])
    | succ k ih =>
      intro i hi
      have hlt:i < n.2.2.1.length:=by omega
      rw [List.drop_eq_getElem_cons hlt]
      by_cases hx:n.2.2.1[i] = e
      · rw [if_pos (by rw [hx]; exact List.mem_cons_self),hx,List.idxOf_cons_self]
        refine Lp.done ?_
        rw [zr1 hlt,cond_true,zr3 hlt,Option.bind_some,hx,beq_self_eq_true]; rfl
      · have hb:(n.2.2.1[i] == e) = false:=by simpa using hx
        have h2:=ih (i + 1) (by omega)
        have hmem:(e ∈ n.2.2.1[i] :: n.2.2.1.drop (i + 1)) ↔ e ∈ n.2.2.1.drop (i + 1):=by
          rw [List.mem_cons]
          exact ⟨fun h=>h.resolve_left (fun q=>hx q.symm),.inr⟩
        have hix:(n.2.2.1[i] :: n.2.2.1.drop (i + 1)).idxOf e = (n.2.2.1.drop (i + 1)).idxOf e + 1:=by rw [List.idxOf_cons,hb,cond_false]
        rw [hix]
        have e2:(if e ∈ n.2.2.1[i] :: n.2.2.1.drop (i + 1) then (Sum.inr ((i + ((n.2.2.1.drop (i + 1)).idxOf e + 1):Nat):Int):Unit ⊕ Int) else .inl ()) = if e ∈ n.2.2.1.drop (i + 1) then .inr ((i + 1 + (n.2.2.1.drop (i + 1)).idxOf e:Nat):Int) else .inl ():=by
          by_cases q:e ∈ n.2.2.1.drop (i + 1)
          · rw [if_pos (hmem.2 q),if_pos q,show i + ((n.2.2.1.drop (i + 1)).idxOf e + 1) = i + 1 + (n.2.2.1.drop (i + 1)).idxOf e by omega]
          · rw [if_neg (fun w=>q (hmem.1 w)),if_neg q]
        rw [e2]
        refine Lp.step (s':=((i + 1:Nat):Int)) ?_ h2
        rw [zr1 hlt,cond_true,zr3 hlt,Option.bind_some,hb,cond_false,zc1 (by omega)]
  have h0:=key n.2.2.1.length 0 (by omega)
  rw [show ((0:Nat):Int) = 0 from rfl,List.drop_zero] at h0
  rw [h0.big (by simp only [big]; omega),Option.bind_some]
  by_cases q:e ∈ n.2.2.1
  · rw [if_pos q,if_pos q,zs19,Nat.zero_add]
  · rw [if_neg q,if_neg q,zz3]
theorem zx23 (k:AMove):zu3 p m k = some (followsB p m k):=by
 have hb:=zi22 hp hm
 have hok:=zs16 hp hm
 have hes:=zd8 hok
 have hpb:=zh36 hp hm
 unfold zu3
 show Option.bind (some (arrS m)) _ = _
 rw [Option.bind_some,(zq12 (p:=p) (e:=arrS m) hm).2,Option.bind_some]
 have hn:idx p.1 (atS p (arrS m)) = some (nodeOf p m):=zi6 (l:=p.1) (d:=N0) hb.1 hb.2
 rw [hn,Option.bind_some]
 show Option.bind (some (arrS m)) _ = _
 rw [Option.bind_some,zj22 _ _ (by omega),if_pos (zw23 hp hm),Option.bind_some]
 show Option.bind (some (k:RailEnd)) _ = _
 rw [Option.bind_some,zj22 _ _ (by omega)]
 have hpos:(((nodeOf p m).2.2.1.idxOf (arrS m):Nat):Int) = posS p m:=rfl
 rw [hpos,decide_eq_true (show posS p m ≥ 0 from hpb.1)]
 simp only [cond_true,Option.bind_some]
 have hndp:(nodeOf p m).2.2.1.Nodup:=hp.ndn hb
 by_cases hk:(k:RailEnd) ∈ (nodeOf p m).2.2.1
 ·have hlt:=List.idxOf_lt_length_iff.2 hk
  rw [if_pos hk,decide_eq_true (Int.natCast_nonneg _),cond_true,zc35 _ ⟨hpb.1,hpb.2.2⟩ (by omega)]
  simp only [Option.bind_some]
  congr 1
  unfold followsB
  rw [Bool.eq_iff_iff,List.any_eq_true]
  constructor
  ·intro h
   refine ⟨((k:RailEnd),(nodeOf p m).2.2.1.idxOf k),List.mem_zipIdx_iff_getElem?.2 (by rw [List.getElem?_eq_getElem hlt,List.getElem_idxOf]), ?_⟩
   rw [Bool.and_eq_true]
   exact ⟨h,by simp⟩
  ·rintro ⟨⟨e,j⟩,h1,h2⟩
   rw [Bool.and_eq_true,beq_iff_eq] at h2
   obtain ⟨h2,h3⟩:=h2
   simp only [] at h2 h3
   subst h3
   have hj:=List.mem_zipIdx_iff_getElem?.1 h1
   obtain ⟨hj1,hj2⟩:=List.getElem?_eq_some_iff.1 hj
   have:(nodeOf p m).2.2.1.idxOf e = j:=by
    have h4:=List.getElem_idxOf hlt
    exact (List.getElem_inj hndp).1 (h4.trans hj2.symm)
   rw [this]
   exact h2
 ·rw [if_neg hk]
  have:followsB p m k = false:=by
   unfold followsB
   rw [List.any_eq_false]
   rintro ⟨e,j⟩ h1 h2
   rw [Bool.and_eq_true,beq_iff_eq] at h2
   exact hk (h2.2 ▸ List.fst_mem_of_mem_zipIdx h1)
  rw [this]
  rfl
end
end Go.Ai.Sx

/- Tracks: ways and their lengths,in the program and in the reference. -/
namespace Go.Ai.Sx
def hasB (p:Plan) (m:AMove):Bool:=inB m.1 0 (p.2.1.length - 1)
def M0:AMove:=(0,false,())
def wayAt (p:Plan) (l:List AMove) (i:Nat):Bool:=hasB p (l.getD i M0) && (decide (i = 0) || followsB p (l.getD (i - 1) M0) (l.getD i M0))
def wayB (p:Plan) (l:List AMove):Bool:=(List.range l.length).all (wayAt p l) && inB (lenI l) 1 2000
def wlS (p:Plan) (l:List AMove):Int:=sumR (fun i=>lenP p (l.getD i M0).1) 0 l.length
theorem zs14 {p:Plan} {m:AMove}:hasB p m = true ↔ 0 ≤ m.1 ∧ m.1 < p.2.1.length:=by
 unfold hasB
 rw [zo3]
 omega
section
variable {p:Plan} (hp:PlOk p)
include hp
theorem za20 {l:List AMove} (hl:l.length ≤ 9223372036854775807) {has:AMove → Option Bool} {fol:AMove → AMove → Option Bool} (hh:∀ m,has m = some (hasB p m)) (hf:∀ m k:AMove,0 ≤ m.1 ∧ m.1 < (p.2.1.length:Int) → fol m k = some (followsB p m k))
    {F:Int → Option (Int ⊕ (Unit ⊕ Bool))} (hF:∀ (i:Nat) (_:i < l.length),F i = Option.bind (has (l.getD i M0)) fun y37=>cond (!y37) (some (.inr (.inr false))) (cond (decide ((i:Int) > 0)) (Option.bind (fol (l.getD (i - 1) M0) (l.getD i M0)) fun y42=>cond (!y42) (some (.inr (.inr false))) (some (.inl (w64 ((i:Int) + 1))))) (some (.inl (w64 ((i:Int) + 1))))))
    (he:F l.length = some (.inr (.inl ()))):∀ (k i:Nat),i + k = l.length → (∀ j,j < i → hasB p (l.getD j M0) = true) → Lp F k (i:Int) (if (List.range' i k).all (wayAt p l) then .inl () else .inr false)
  | 0,i,hi,_=>by
    have:i = l.length:=by omega
    subst this
    exact Lp.done he
  | k + 1,i,hi,hj=>by
    have hlt:i < l.length:=by omega
    rw [List.range'_succ,List.all_cons]
    cases hs:hasB p (l.getD i M0) with
    | false =>
      have:wayAt p l i = false:=by unfold wayAt; rw [hs]; rfl
      rw [this]
      refine Lp.done ?_
      rw [hF i hlt,hh,hs]; rfl
    | true =>
      have hj':∀ j,j < i + 1 → hasB p (l.getD j M0) = true:=fun j h=>by
        by_cases e:j = i
        · rw [e]; exact hs
        · exact hj j (by omega)
      have ih:=za20 hl hh hf hF he k (i + 1) (by omega) hj'
      by_cases h0:i = 0
      · subst h0
        have:wayAt p l 0 = true:=by unfold wayAt; rw [hs]; rfl
        rw [this,Bool.true_and]
        refine Lp.step (s':=((0 + 1:Nat):Int)) ?_ ih
        rw [hF 0 hlt,hh,hs]; rfl
      · have hw:wayAt p l i = followsB p (l.getD (i - 1) M0) (l.getD i M0):=by unfold wayAt; rw [hs,decide_eq_false h0]; rfl
        rw [hw]
        have hprev:=zs14.1 (hj (i - 1) (by omega))
        have hFi:F i = cond (!followsB p (l.getD (i - 1) M0) (l.getD i M0)) (some (.inr (.inr false))) (some (.inl ((i + 1:Nat):Int))):=by
          rw [hF i hlt,hh,hs,decide_eq_true (show (i:Int) > 0 by omega),hf _ _ hprev,zc1 (by omega)]; rfl
        cases hb:followsB p (l.getD (i - 1) M0) (l.getD i M0) with
        | false =>
          rw [hb] at hFi
          rw [Bool.false_and]
          exact Lp.done hFi
        | true =>
          rw [hb] at hFi
          rw [Bool.true_and]
          exact Lp.step hFi ih
theorem zi36 (m:AMove):zz2 (netW p) m = some (hasB p m):=by
 unfold zz2
 rw [twithin,Option.bind_some]
 have:w64 (lenI (netW p).1.2.1 - 1) = p.2.1.length - 1:=wrails hp.r
 rw [this]; rfl
theorem ze35 (m:AMove):zj5 p m = some (hasB p m):=by
 unfold zj5
 rw [rin1,Option.bind_some,wrails hp.r]; rfl
theorem ze40 {l:List AMove} (hl:l.length ≤ 9223372036854775807):zh4 (netW p) l = some (wayB p l):=by
  unfold zh4
  have hL:=za20 hp hl (fun m=>zi36 hp m) (fun m k hm=>zo27 hp hm k) (F:=fun s22 =>
cond ((decide (s22 < (lenI l)))) (Option.bind (idx l s22) fun x25 =>
Option.bind (zz2 (netW p) x25) fun y37 =>
cond ((!y37)) (some (.inr ((.inr false)))) (cond ((decide (s22 > 0))) (Option.bind (idx l ((w64 (s22 - 1)))) fun x41 =>
Option.bind (zq2 (netW p) x41 x25) fun y42 =>
cond ((!y42)) (some (.inr ((.inr false)))) (some (.inl ((w64 (s22 + 1)))))) (some (.inl ((w64 (s22 + 1))))))) (some (.inr ((.inl (())))))) (fun i hi=>by
      rw [zr1 hi,cond_true,zf1 M0 hi,Option.bind_some]
      by_cases h0:i = 0
      · subst h0; rfl
      · rw [decide_eq_true (show (i:Int) > 0 by omega),zh (n:=(i:Int) - 1) (by omega) (by omega),show (i:Int) - 1 = ((i - 1:Nat):Int) by omega,zf1 M0 (show i - 1 < l.length by omega)]
        rfl) (by simp only [zb2,cond_false]) l.length 0 (by omega) (fun j hj=>by omega)
  rw [show ((0:Nat):Int) = 0 from rfl] at hL
  rw [hL.big (by simp only [big]; omega),Option.bind_some,← List.range_eq_range']
  unfold wayB
  cases (List.range l.length).all (wayAt p l) with
  | false=>rfl
  | true=>simp only [if_true,zz3,twithin]; rfl
theorem zf40 {l:List AMove} (hl:l.length ≤ 9223372036854775807):zv6 p l = some (wayB p l):=by
  unfold zv6
  have hL:=za20 hp hl (fun m=>ze35 hp m) (fun m k hm=>zx23 hp hm k) (F:=fun s26 =>
cond ((decide (s26 < (lenI l)))) (Option.bind (idx l s26) fun x43 =>
Option.bind (zj5 p x43) fun y44 =>
cond ((!y44)) (some (.inr ((.inr false)))) (cond ((decide (s26 > 0))) (Option.bind (idx l ((w64 (s26 - 1)))) fun x48 =>
Option.bind (idx l s26) fun x49 =>
Option.bind (zu3 p x48 x49) fun y50 =>
cond ((!y50)) (some (.inr ((.inr false)))) (some (.inl ((w64 (s26 + 1)))))) (some (.inl ((w64 (s26 + 1))))))) (some (.inr ((.inl (())))))) (fun i hi=>by
      rw [zr1 hi,cond_true,zf1 M0 hi,Option.bind_some]
      by_cases h0:i = 0
      · subst h0; rfl
      · rw [decide_eq_true (show (i:Int) > 0 by omega),zh (n:=(i:Int) - 1) (by omega) (by omega),show (i:Int) - 1 = ((i - 1:Nat):Int) by omega,zf1 M0 (show i - 1 < l.length by omega)]
        rfl) (by simp only [zb2,cond_false]) l.length 0 (by omega) (fun j hj=>by omega)
  rw [show ((0:Nat):Int) = 0 from rfl] at hL
  rw [hL.big (by simp only [big]; omega),Option.bind_some,← List.range_eq_range']
  unfold wayB
  cases (List.range l.length).all (wayAt p l) with
  | false=>rfl
  | true=>simp only [if_true,zz3,rin1]; rfl
structure WayOk (p:Plan) (l:List AMove):Prop where
 n:1 ≤ l.length ∧ l.length ≤ 2000
 m:∀ i,i < l.length → 0 ≤ (l.getD i M0).1 ∧ (l.getD i M0).1 < p.2.1.length
omit hp in
theorem zb20 {l:List AMove} (h:wayB p l = true):WayOk p l:=by
 unfold wayB at h
 rw [Bool.and_eq_true,zo3,zo1] at h
 refine ⟨by omega,fun i hi=>?_⟩
 have:=List.all_eq_true.1 h.1 i (List.mem_range.2 hi)
 unfold wayAt at this
 rw [Bool.and_eq_true] at this
 exact zs14.1 this.1
theorem zy23 {i:Int} (hi:0 ≤ i ∧ i < p.2.1.length):1 ≤ lenP p i ∧ lenP p i ≤ 31000000:=hp.len hi
theorem wl_bd {l:List AMove} (h:WayOk p l):0 ≤ wlS p l ∧ wlS p l ≤ 31000000 * l.length :=
 zp16 _ _ fun i _ hi=>by have:=zy23 hp (h.m i (by omega)); omega
theorem zq31 {l:List AMove} (h:WayOk p l) {lg:AMove → Option Int} (hg:∀ m:AMove,0 ≤ m.1 ∧ m.1 < p.2.1.length → lg m = some (lenP p m.1)):iter (σ:=(Int × Int)) (τ:=(Int)) (fun s6 =>
cond ((decide (s6.2 < (lenI l)))) (Option.bind (idx l s6.2) fun x9 =>
Option.bind (lg x9) fun x12 =>
some (.inl (((w64 (s6.1 + x12)),(w64 (s6.2 + 1)))))) (some (.inr s6.1))) big ((0,0)) = some (wlS p l):=by
  have hn:=h.n
  have hL:=zw19 (B:=31000000) (N:=l.length) (f:=fun i=>lenP p (l.getD i M0).1) (F:=fun s6:Int × Int =>
cond ((decide (s6.2 < (lenI l)))) (Option.bind (idx l s6.2) fun x9 =>
Option.bind (lg x9) fun x12 =>
some (.inl (((w64 (s6.1 + x12)),(w64 (s6.2 + 1)))))) (some (.inr s6.1))) (by omega) (by omega) (by omega) (fun i hi=>by have:=zy23 hp (h.m i hi); omega) l.length 0 0 (by omega) (by omega) (by omega) (fun i s _ hi=>by
      simp only []
      rw [zr1 hi,cond_true,zf1 M0 hi,Option.bind_some,hg _ (h.m i hi),Option.bind_some]) (fun s=>by simp only [zb2,cond_false])
  rw [show ((0:Nat):Int) = 0 from rfl,Int.zero_add] at hL
  exact hL.big (by simp only [big]; omega)
theorem zr31 {i:Int} (hi:0 ≤ i ∧ i < p.2.1.length):idx (netW p).2.1 i = some (lenP p i):=by
 show idx ((List.range p.2.1.length).map fun i:Nat=>lenP p (i:Int)) i = _
 rw [zs30 hi.1 (by rw [List.length_map,List.length_range]; exact hi.2)]
 simp only [List.getElem_map,List.getElem_range]
 rw [Int.toNat_of_nonneg hi.1]
theorem zx42 {l:List AMove} (h:WayOk p l):zv2 (netW p) l = some (wlS p l):=by
 unfold zv2
 rw [zq31 hp h (lg:=fun x9=>idx (netW p).2.1 x9.1) (fun m hm=>zr31 hp hm)]; rfl
theorem zt16 {i:Int} (hi:0 ≤ i ∧ i < p.2.1.length):zf2 p i = some (lenP p i):=zl27 hi (hp.ix hi) (hp.spots hi).1
theorem zj36 {l:List AMove} (h:WayOk p l):zb3 p l = some (wlS p l):=by
 unfold zb3
 rw [zq31 hp h (lg:=fun x9=>zf2 p x9.1) (fun m hm=>zt16 hp hm)]; rfl
end
theorem ze14 (p:Plan) {l:List AMove} (hl:l.length ≤ 9223372036854775807):zd4 p l = some (if validB p && wayB p l then (wlS p l,0) else (0,2)):=by
 unfold zd4
 rw [zl31]
 cases hv:validB p with
 | false=>rfl
 | true =>
  have hp:=zw10 hv
  simp only [if_true,Option.bind_some,Bool.not_true,cond_false,ze40 hp hl,Bool.true_and]
  cases hw:wayB p l with
  | false=>rfl
  | true =>
   simp only [Bool.not_true,cond_false,zx42 hp (zb20 hw),if_true,Option.bind_some]
theorem zs31 (p:Plan) (i:Int):zc4 p i = some (if validB p && hasB p (i,false,()) then (lenP p i,0) else (0,2)):=by
 unfold zc4
 rw [zl31]
 cases hv:validB p with
 | false=>rfl
 | true =>
  have hp:=zw10 hv
  simp only [if_true,Option.bind_some,Bool.not_true,cond_false,zi36 hp,Bool.true_and]
  cases hw:hasB p (i,false,()) with
  | false=>rfl
  | true =>
   have hi:=zs14.1 hw
   simp only [Bool.not_true,cond_false,zr31 hp hi,if_true,Option.bind_some]
end Go.Ai.Sx

/- Motion: looking for a place in a rising row. -/
namespace Go.Ai.Sx
theorem zf35 (a b:Int):zu2 a b = some (decide (a < b)):=by
 unfold zu2
 simp only [zd5,Option.bind_some,bne_self_eq_false,cond_false]
theorem zg35 {a b:Int} (h:0 ≤ a + b ∧ a + b < 4611686018427387904):shrO .u64 (IntKind.u64.wrap (w64 (a + b))) 1 = some ((a + b) / 2) ∧ w64 ((a + b) / 2) = (a + b) / 2:=by
 have e1:w64 (a + b) = a + b:=zh (by omega) (by omega)
 have e2:IntKind.u64.wrap (a + b) = a + b:=by simp only [IntKind.wrap,IntKind.bits,IntKind.signed]; simp; omega
 rw [e1,e2]
 unfold shrO
 rw [if_pos (by omega)]
 refine ⟨?_,zh (by omega) (by omega)⟩
 congr 1
 simp [IntKind.bits]
 rw [Int.fdiv_eq_ediv_of_nonneg _ (by omega)]
def Rising (xs:List Int):Prop:=∀ i j,i < j → j < xs.length → xs.getD i 0 < xs.getD j 0
theorem bsearch {xs:List Int} (hr:Rising xs) (hl:xs.length ≤ 1000000) (t:Int):∃ (i:Nat) (b:Bool),zr xs t = some ((i:Int),b) ∧ i ≤ xs.length ∧ (∀ j,j < i → xs.getD j 0 < t) ∧ ∀ j,i ≤ j → j < xs.length → t ≤ xs.getD j 0:=by
  have hT:Tot (fun r:Int=>∃ i:Nat,r = (i:Int) ∧ i ≤ xs.length ∧ (∀ j,j < i → xs.getD j 0 < t) ∧ ∀ j,i ≤ j → j < xs.length → t ≤ xs.getD j 0) (iter (σ:=(Int × Int)) (τ:=(Int)) (fun s6 =>
cond ((decide (s6.1 < s6.2))) (Option.bind (shrO .u64 ((IntKind.u64.wrap ((w64 (s6.1 + s6.2))))) 1) fun x9 =>
Option.bind (idx xs ((w64 x9))) fun x10 =>
Option.bind (zu2 x10 t) fun y11 =>
cond (y11) (some (.inl (((w64 ((w64 x9) + 1)),s6.2)))) (some (.inl ((s6.1,(w64 x9)))))) (some (.inr s6.1))) big ((0,(lenI xs)))):=by
    refine Tot.iter (fun s:Int × Int=>∃ lo hi:Nat,s = ((lo:Int),(hi:Int)) ∧ lo ≤ hi ∧ hi ≤ xs.length ∧ (∀ j,j < lo → xs.getD j 0 < t) ∧ ∀ j,hi ≤ j → j < xs.length → t ≤ xs.getD j 0) _ (fun s=>(s.2 - s.1).toNat) ⟨0,xs.length,rfl,by omega,by omega,fun j hj=>by omega,fun j h1 h2=>by omega⟩ (by simp only [zo1,big]; omega) ?_
    rintro s ⟨lo,hi,rfl,h1,h2,h3,h4⟩
    simp only []
    by_cases hlt:lo < hi
    · obtain ⟨e1,e2⟩:=zg35 (a:=(lo:Int)) (b:=(hi:Int)) ⟨by omega,by omega⟩
      obtain ⟨m,hm⟩:∃ m:Nat,((lo:Int) + hi) / 2 = (m:Int):=⟨(((lo:Int) + hi) / 2).toNat,by omega⟩
      rw [decide_eq_true (show (lo:Int) < hi by omega),cond_true,e1,Option.bind_some,e2,hm,zf1 0 (show m < xs.length by omega),Option.bind_some,zf35,Option.bind_some]
      by_cases hc:xs.getD m 0 < t
      · rw [decide_eq_true hc,cond_true,zc1 (by omega)]
        refine Tot.some ⟨⟨m + 1,hi,rfl,by omega,h2,fun j hj=>?_,h4⟩,by simp only []; omega⟩
        by_cases e:j = m
        · rw [e]; exact hc
        · have:=hr j m (by omega) (by omega); omega
      · rw [decide_eq_false hc,cond_false]
        refine Tot.some ⟨⟨lo,m,rfl,by omega,by omega,h3,fun j hj hjl=>?_⟩,by simp only []; omega⟩
        by_cases e:j = m
        · rw [e]; omega
        · have:=hr m j (by omega) hjl; omega
    · have:lo = hi:=by omega
      subst this
      rw [decide_eq_false (by omega),cond_false]
      exact Tot.some ⟨lo,rfl,by omega,h3,h4⟩
  obtain ⟨r,h1,i,rfl,h2,h3,h4⟩:=hT
  have hb:∃ b:Bool,zr xs t = some ((i:Int),b):=by
    unfold zr
    rw [h1,Option.bind_some]
    by_cases hlt:i < xs.length
    · rw [zr1 hlt,cond_true,zf1 0 hlt,Option.bind_some]
      cases (xs.getD i 0 == t) with
      | true=>exact ⟨true,rfl⟩
      | false =>
        simp only [cond_false,zm4,Option.bind_some,bne_self_eq_false]
        exact ⟨false,rfl⟩
    · rw [decide_eq_false (show ¬ (i:Int) < lenI xs by rw [zo1]; omega)]
      exact ⟨false,rfl⟩
  obtain ⟨b,hb⟩:=hb
  exact ⟨i,b,hb,h2,h3,h4⟩
section
variable (p:Plan) (way:List AMove)
def mvl (i:Nat):Int:=lenP p (way.getD i M0).1
def endAt (i:Nat):Int:=sumR (mvl p way) 0 i
def railAt (i:Nat):Rail:=rl0 p (way.getD i M0).1
def limAt (i:Nat):Int:=(railAt p way i).2.2.2.1
def slpAt (i:Nat):Int:=if (way.getD i M0).2.1 then -(railAt p way i).2.2.2.2.1 else (railAt p way i).2.2.2.2.1
def endsL:List Int:=rlN way.length fun i=>endAt p way (i + 1)
def limsL:List Int:=rlN way.length (limAt p way)
def slpsL:List Int:=rlN way.length (slpAt p way)
end
theorem zk22 (f:Nat → Int):∀ (k a:Nat),sumR f a (k + 1) = sumR f a k + f (a + k)
 | 0,a=>by simp [sumR]
 | k + 1,a=>by
  rw [sumR,zk22 f k (a + 1),sumR]
  rw [show a + 1 + k = a + (k + 1) by omega]
  omega
theorem zx10 (p:Plan) (way:List AMove) (i:Nat):endAt p way (i + 1) = endAt p way i + mvl p way i:=by
 unfold endAt
 rw [zk22,Nat.zero_add]
theorem zr13 {A:Type} (n:Nat) (f:Nat → A):(rlN n f).length = n:=by unfold rlN; simp
theorem zs13 {A:Type} {n:Nat} {f:Nat → A} {i:Nat} (d:A) (h:i < n):(rlN n f).getD i d = f i:=by
 unfold rlN
 simp [List.getD,h]
section
variable {p:Plan} {way:List AMove} (hp:PlOk p) (hw:WayOk p way)
include hp hw
theorem zt31 {i:Nat} (hi:i < way.length):1 ≤ mvl p way i ∧ mvl p way i ≤ 31000000:=zy23 hp (hw.m i hi)
theorem zt13 {i j:Nat} (h:i < j) (hj:j ≤ way.length):endAt p way i < endAt p way j:=by
 induction j with
 | zero=>omega
 | succ j ih =>
  have h1:=zt31 hp hw (i:=j) (by omega)
  rw [zx10]
  by_cases e:i = j
  ·subst e; omega
  ·have:=ih (by omega) (by omega); omega
theorem zy10 {i:Nat} (hi:i ≤ way.length):0 ≤ endAt p way i ∧ endAt p way i ≤ 62000000000:=by
 have h1:=zp16 (f:=mvl p way) (B:=31000000) i 0 (fun j _ hj=>by have:=zt31 hp hw (i:=j) (by omega); omega)
 have:=hw.n
 unfold endAt
 omega
theorem zu16:Rising (endsL p way):=by
 intro i j h hj
 unfold endsL at *
 rw [zr13] at hj
 rw [zs13 0 (by omega),zs13 0 hj]
 exact zt13 hp hw (by omega) (by omega)
theorem zq11 {i:Nat} (hi:i < way.length):(1 ≤ limAt p way i ∧ limAt p way i ≤ 50000) ∧ (-120 ≤ slpAt p way i ∧ slpAt p way i ≤ 120) ∧ idx p.2.1 (way.getD i M0).1 = some (railAt p way i):=by
 have hm:=hw.m i hi
 have h1:=hp.rail hm
 unfold railB railH at h1
 simp only [Bool.and_eq_true,zo3] at h1
 obtain ⟨⟨_,_,_,h2,h3⟩,_⟩:=h1
 refine ⟨h2, ?_,zi6 hm.1 hm.2⟩
 unfold slpAt railAt
 split <;> omega
end
def ixF (f:Nat → Bool):Nat → Nat → Nat
 | 0,i=>i
 | k + 1,i=>if f i then i else ixF f k (i + 1)
theorem zk36 {f:Nat → Bool}:∀ {k i r:Nat},i ≤ r → r ≤ i + k → (∀ j,i ≤ j → j < r → f j = false) → (r < i + k → f r = true) → ixF f k i = r
 | 0,i,r,h1,h2,_,_=>by unfold ixF; omega
 | k + 1,i,r,h1,h2,h3,h4=>by
  unfold ixF
  by_cases e:i = r
  ·subst e
   rw [if_pos (h4 (by omega))]
  ·rw [if_neg (by rw [h3 i (Nat.le_refl i) (by omega)]; simp)]
   exact zk36 (by omega) (by omega) (fun j h5 h6=>h3 j (by omega) h6) (fun h5=>h4 (by omega))
def slIx (p:Plan) (way:List AMove) (f:Int):Nat:=ixF (fun i=>decide (f < endAt p way (i + 1))) (way.length - 1) 0
def slopeS (p:Plan) (way:List AMove) (f:Int):Int:=slpAt p way (slIx p way f)
theorem zu31 {p:Plan} {way:List AMove} (h:1 ≤ way.length) (f:Int):slIx p way f < way.length:=by
 have key:∀ (g:Nat → Bool) (k i:Nat),ixF g k i ≤ i + k:=by
  intro g k
  induction k with
  | zero=>intro i; exact Nat.le_refl _
  | succ k ih =>
   intro i
   unfold ixF
   split
   ·omega
   ·have:=ih (i + 1); omega
 have:=key (fun i=>decide (f < endAt p way (i + 1))) (way.length - 1) 0
 unfold slIx
 omega
def runS (p:Plan) (way:List AMove) (t:Train) (st:Int) (stops:List Int):zz1:=((t,st,()),way,endsL p way,limsL p way,slpsL p way,stops,())
section
variable {p:Plan} {way:List AMove} {t:Train} {st:Int} {stops:List Int} {x:MotionState} (hp:PlOk p) (hw:WayOk p way) (ht:TrOk t) (hx:StOk t x)
include hp hw ht hx
theorem place0:0 ≤ placeS t x ∧ placeS t x ≤ 4000000000000000000:=by
 have hm:=ht.m
 have h:=hx.w
 unfold placeS
 have h1:0 ≤ x.2.1 / (10 * t.1):=Int.ediv_nonneg h.1 (by omega)
 have h2:x.2.1 / (10 * t.1) ≤ x.2.1:=Int.ediv_le_self _ h.1
 omega
theorem zh35:zy (runS p way t st stops) x = some (slopeS p way (placeS t x)):=by
 have hn:=hw.n
 have hpl:=place0 hp hw ht hx
 unfold zy
 show Option.bind (zp (t,st,()) x) _ = _
 rw [(zx8 ht hx st).1,Option.bind_some]
 have e1:x.2.1 / (10 * t.1) = placeS t x:=rfl
 rw [e1,zh (n:=placeS t x + 1) (by omega) (by omega)]
 show Option.bind (zr (endsL p way) (placeS t x + 1)) _ = _
 have hel:(endsL p way).length = way.length:=by unfold endsL; rw [zr13]
 obtain ⟨i,b,h1,h2,h3,h4⟩:=bsearch (zu16 hp hw) (by omega) (placeS t x + 1)
 rw [h1,Option.bind_some]
 show Option.bind (idx (slpsL p way) (min (i:Int) (w64 (lenI (slpsL p way) - 1)))) _ = _
 have hsl:(slpsL p way).length = way.length:=by unfold slpsL; rw [zr13]
 rw [zo1,hsl,zh (by omega) (by omega)]
 have hge:∀ j,j < way.length → (endsL p way).getD j 0 = endAt p way (j + 1):=fun j hj=>by unfold endsL; rw [zs13 0 hj]
 have hix:slIx p way (placeS t x) = min i (way.length - 1):=by
  unfold slIx
  refine zk36 (by omega) (by omega) (fun j _ hj=>?_) (fun hlt=>?_)
  ·have:=h3 j (by omega)
   rw [hge j (by omega)] at this
   exact decide_eq_false (by omega)
  ·have:=h4 (min i (way.length - 1)) (by omega) (by omega)
   rw [hge _ (by omega)] at this
   exact decide_eq_true (by omega)
 have hmin:min (i:Int) ((way.length:Int) - 1) = ((min i (way.length - 1):Nat):Int):=by omega
 rw [hmin,zf1 0 (by omega),Option.bind_some,← hix]
 unfold slpsL slopeS
 rw [zs13 0 (zu31 hn.1 _)]
theorem zz10 (f:Int):-120 ≤ slopeS p way f ∧ slopeS p way f ≤ 120:=(zq11 hp hw (zu31 hw.n.1 f)).2.1
end
end Go.Ai.Sx

/- Motion: a run's limit,and the reference's slope and limit. -/
namespace Go.Ai.Sx
def limF (g:Nat → Bool) (v:Nat → Int):Nat → Nat → Int → Int
 | 0,_,b=>b
 | k + 1,i,b=>limF g v k (i + 1) (if g i then min b (v i) else b)
theorem za11 (g:Nat → Bool) (v:Nat → Int) (l:Nat):∀ (k i:Nat) (b:Int),limF g v (k + l) i b = limF g v l (i + k) (limF g v k i b)
 | 0,i,b=>by rw [Nat.zero_add]; rfl
 | k + 1,i,b=>by
  rw [show k + 1 + l = (k + l) + 1 by omega,limF,za11 g v l k (i + 1),limF,show i + 1 + k = i + (k + 1) by omega]
theorem zc20 {g:Nat → Bool} {v:Nat → Int}:∀ (k i:Nat) (b:Int),(∀ j,i ≤ j → j < i + k → g j = false) → limF g v k i b = b
 | 0,_,_,_=>rfl
 | k + 1,i,b,h=>by
  rw [limF,h i (Nat.le_refl i) (by omega)]
  exact zc20 k (i + 1) b fun j h1 h2=>h j (by omega) (by omega)
theorem zz23 {g:Nat → Bool} {v:Nat → Int}:∀ (k i:Nat) (b:Int),limF g v k i b ≤ b
 | 0,_,_=>Int.le_refl _
 | k + 1,i,b=>by
  rw [limF]
  have:=zz23 (g:=g) (v:=v) k (i + 1) (if g i then min b (v i) else b)
  have h2:(if g i then min b (v i) else b) ≤ b:=by split <;> omega
  omega
theorem zv31 {g:Nat → Bool} {v:Nat → Int} {k i j:Nat} (b:Int) (h1:i ≤ j) (h2:j < i + k) (hg:g j = true):limF g v k i b ≤ v j:=by
 obtain ⟨a,rfl⟩:∃ a,j = i + a:=⟨j - i,by omega⟩
 rw [show k = (a + 1) + (k - a - 1) by omega,za11,za11 g v 1 a i b]
 have h3:=zz23 (g:=g) (v:=v) (k - a - 1) (i + (a + 1)) (limF g v 1 (i + a) (limF g v a i b))
 have h4:limF g v 1 (i + a) (limF g v a i b) ≤ v (i + a):=by
  rw [limF,limF,if_pos hg]
  exact Int.min_le_right _ _
 omega
def ovB (p:Plan) (way:List AMove) (L f:Int) (i:Nat):Bool:=decide (f - L < endAt p way (i + 1)) && (decide (endAt p way i < f) || decide (i = 0))
def limS (p:Plan) (way:List AMove) (t:Train) (f:Int):Int:=limF (ovB p way t.2.1 f) (limAt p way) way.length 0 t.2.2.1
section
variable {p:Plan} {way:List AMove} {t:Train} {st:Int} {stops:List Int} {x:MotionState} (hp:PlOk p) (hw:WayOk p way) (ht:TrOk t)
include hp hw ht
theorem zi35 {i j:Nat} (h:i ≤ j) (hj:j ≤ way.length):endAt p way i ≤ endAt p way j:=by
 by_cases e:i = j
 ·subst e; omega
 ·have:=zt13 hp hw (i:=i) (j:=j) (by omega) hj; omega
theorem zg40 (f:Int):limS p way t f ≤ t.2.2.1:=zz23 _ _ _
theorem zh40 {f:Int} (hf:f - t.2.1 < wlS p way):∃ i,i < way.length ∧ limS p way t f ≤ limAt p way i:=by
 have hn:=hw.n
 by_cases h0:f - t.2.1 < endAt p way 1
 ·refine ⟨0,by omega,zv31 _ (Nat.le_refl _) (by omega) ?_⟩
  unfold ovB
  rw [decide_eq_true h0]; simp
 ·have key:∀ k,k ≤ way.length → f - t.2.1 < endAt p way k → ∃ i,i < k ∧ ¬ f - t.2.1 < endAt p way i ∧ f - t.2.1 < endAt p way (i + 1):=by
   intro k
   induction k with
   | zero =>
    intro _ h
    have:=zt13 hp hw (i:=0) (j:=1) (by omega) (by omega)
    omega
   | succ k ih =>
    intro hk h
    by_cases e:f - t.2.1 < endAt p way k
    ·obtain ⟨i,h1,h2⟩:=ih (by omega) e
     exact ⟨i,by omega,h2⟩
    ·exact ⟨k,by omega,e,h⟩
  obtain ⟨i,h1,h2,h3⟩:=key way.length (Nat.le_refl _) hf
  have hl:=ht.len
  refine ⟨i,h1,zv31 _ (by omega) (by omega) ?_⟩
  unfold ovB
  rw [decide_eq_true h3,decide_eq_true (show endAt p way i < f by omega)]; rfl
theorem zj35 (hx:StOk t x):zn4 (runS p way t st stops) x = some (limS p way t (placeS t x)):=by
  have hn:=hw.n
  have hl:=ht.len
  have hpl:=place0 hp hw ht hx
  unfold zn4
  show Option.bind (zp (t,st,()) x) _ = _
  rw [(zx8 ht hx st).1,Option.bind_some]
  have e1:x.2.1 / (10 * t.1) = placeS t x:=rfl
  rw [e1]
  show Option.bind (zr (endsL p way) (w64 (w64 (placeS t x - t.2.1) + 1))) _ = _
  rw [zh (n:=placeS t x - t.2.1) (by omega) (by omega),zh (n:=placeS t x - t.2.1 + 1) (by omega) (by omega)]
  have hel:(endsL p way).length = way.length:=by unfold endsL; rw [zr13]
  have hll:(limsL p way).length = way.length:=by unfold limsL; rw [zr13]
  have hge:∀ j,j < way.length → (endsL p way).getD j 0 = endAt p way (j + 1):=fun j hj=>by unfold endsL; rw [zs13 0 hj]
  have hgl:∀ j,j < way.length → (limsL p way).getD j 0 = limAt p way j:=fun j hj=>by unfold limsL; rw [zs13 0 hj]
  obtain ⟨i0,b,h1,h2,h3,h4⟩:=bsearch (zu16 hp hw) (by omega) (placeS t x - t.2.1 + 1)
  rw [h1,Option.bind_some]
  have key:∀ (k i:Nat) (v:Int),i + k = way.length → i0 ≤ i → (i = i0 ∨ endAt p way i < placeS t x) →
      Lp (fun s8:Int × Int =>
cond ((decide (s8.2 < (lenI (endsL p way))))) (Option.bind (idx (limsL p way) s8.2) fun x11 =>
Option.bind (idx (endsL p way) s8.2) fun x12 =>
cond ((decide (x12 ≥ placeS t x))) (some (.inr (((min s8.1 x11))))) (some (.inl (((min s8.1 x11),(w64 (s8.2 + 1))))))) (some (.inr s8.1))) k (v,(i:Int)) (limF (ovB p way t.2.1 (placeS t x)) (limAt p way) k i v):=by
    intro k
    induction k with
    | zero =>
      intro i v hi _ _
      refine Lp.done ?_
      have:i = (endsL p way).length:=by omega
      subst this
      simp only [zb2,cond_false]
      rfl
    | succ k ih =>
      intro i v hi hle hor
      have hil:i < way.length:=by omega
      have hov:ovB p way t.2.1 (placeS t x) i = true:=by
        unfold ovB
        have h5:=h4 i hle (by omega)
        rw [hge i hil] at h5
        rw [decide_eq_true (by omega)]
        have h6:i = 0 ∨ endAt p way i < placeS t x:=by
          rcases hor with rfl | h
          · by_cases e:i = 0
            · exact .inl e
            · right
              have h7:=h3 (i - 1) (by omega)
              rw [hge (i - 1) (by omega),show i - 1 + 1 = i by omega] at h7
              omega
          · exact .inr h
        simp only [Bool.true_and,Bool.or_eq_true,decide_eq_true_eq]
        omega
      rw [limF,if_pos hov]
      by_cases hc:endAt p way (i + 1) ≥ placeS t x
      · rw [zc20 k (i + 1) _ (fun j h5 h6=>by
          have h7:=zi35 hp hw ht (i:=i + 1) (j:=j) h5 (by omega)
          unfold ovB
          rw [decide_eq_false (show ¬ endAt p way j < placeS t x by omega),decide_eq_false (show ¬ j = 0 by omega)]
          simp)]
        refine Lp.done ?_
        simp only [zr1 (show i < (endsL p way).length by omega),cond_true]
        rw [zf1 0 (by omega),Option.bind_some,zf1 0 (by omega),Option.bind_some,hge i hil,hgl i hil,decide_eq_true hc,cond_true]
      · refine Lp.step ?_ (ih (i + 1) _ (by omega) (by omega) (.inr (by omega)))
        simp only [zr1 (show i < (endsL p way).length by omega),cond_true]
        rw [zf1 0 (by omega),Option.bind_some,zf1 0 (by omega),Option.bind_some,hge i hil,hgl i hil,decide_eq_false hc,cond_false,zc1 (by omega)]
  have hL:=key (way.length - i0) i0 t.2.2.1 (by omega) (Nat.le_refl _) (.inl rfl)
  have hR:limF (ovB p way t.2.1 (placeS t x)) (limAt p way) (way.length - i0) i0 t.2.2.1 = limS p way t (placeS t x):=by
    unfold limS
    have hk:way.length = i0 + (way.length - i0):=by omega
    rw [hk,za11,zc20 i0 0 _ (fun j _ h6=>by
      have h7:=h3 j (by omega)
      rw [hge j (by omega)] at h7
      unfold ovB
      rw [decide_eq_false (by omega)]
      rfl),Nat.zero_add,← hk]
  rw [hR] at hL
  have hB:=hL.big (by simp only [big]; omega)
  exact congrArg (fun o=>Option.bind o fun t14=>some t14) hB
theorem zm9 {stop:Int} {f:Int} (hf:0 ≤ f ∧ f ≤ 4000000000000000000):zw2 (p,way,t,st,stop,()) f = some (slopeS p way f):=by
  have hn:=hw.n
  unfold zw2
  have key:∀ (k i:Nat),i + k + 1 = way.length →
      Lp (fun s30:Int × Int =>
cond ((decide (s30.2 < (lenI way)))) (Option.bind (idx way s30.2) fun x35 =>
Option.bind (zf2 p x35.1) fun y36 =>
cond ((decide (f < (w64 (s30.1 + y36))))) (Option.bind (idx way s30.2) fun x40 =>
cond (x40.2.1) (Option.bind (idx way s30.2) fun x44 =>
Option.bind (idx p.2.1 x44.1) fun x45 =>
some (.inr ((.inr ((w64 (0 - x45.2.2.2.2.1))))))) (Option.bind (idx way s30.2) fun x48 =>
Option.bind (idx p.2.1 x48.1) fun x49 =>
some (.inr ((.inr x49.2.2.2.2.1))))) (cond ((s30.2 == (w64 ((lenI way) - 1)))) (Option.bind (idx way s30.2) fun x51 =>
cond (x51.2.1) (Option.bind (idx way s30.2) fun x55 =>
Option.bind (idx p.2.1 x55.1) fun x56 =>
some (.inr ((.inr ((w64 (0 - x56.2.2.2.2.1))))))) (Option.bind (idx way s30.2) fun x59 =>
Option.bind (idx p.2.1 x59.1) fun x60 =>
some (.inr ((.inr x60.2.2.2.2.1))))) (some (.inl (((w64 (s30.1 + y36)),(w64 (s30.2 + 1)))))))) (some (.inr ((.inl (())))))) k (endAt p way i,(i:Int)) (.inr (slpAt p way (ixF (fun i=>decide (f < endAt p way (i + 1))) k i)):Unit ⊕ Int):=by
    intro k
    induction k with
    | zero =>
      intro i hi
      have hil:i < way.length:=by omega
      obtain ⟨_,hs,hr⟩:=zq11 hp hw hil
      refine Lp.done ?_
      simp only [zr1 hil,cond_true]
      have hlast:((i:Int) == w64 (lenI way - 1)) = true:=by
        rw [zo1,zh (by omega) (by omega)]; simp; omega
      rw [zf1 M0 hil,Option.bind_some,zt16 hp (hw.m i hil),Option.bind_some]
      simp only [Option.bind_some,hr,hlast,cond_true]
      have hv:(cond (way.getD i M0).2.1 (some (Sum.inr (Sum.inr (w64 (0 - (railAt p way i).2.2.2.2.1)))):Option ((Int × Int) ⊕ (Unit ⊕ Int))) (some (Sum.inr (Sum.inr (railAt p way i).2.2.2.2.1)))) = some (Sum.inr (Sum.inr (slpAt p way i))):=by
        unfold slpAt at *
        cases h:(way.getD i M0).2.1 with
        | true =>
          rw [h] at hs
          simp only [if_true] at hs
          simp only [cond_true,if_true]
          rw [zh (by omega) (by omega),Int.zero_sub]
        | false=>rfl
      rw [hv]
      cases decide (f < w64 (endAt p way i + lenP p (way.getD i M0).1)) <;> rfl
    | succ k ih =>
      intro i hi
      have hil:i < way.length:=by omega
      obtain ⟨_,hs,hr⟩:=zq11 hp hw hil
      have hb:=zy10 hp hw (i:=i) (by omega)
      have hb1:=zy10 hp hw (i:=i + 1) (by omega)
      have hsx:=zx10 p way i
      have hml:mvl p way i = lenP p (way.getD i M0).1:=rfl
      have hlast:((i:Int) == w64 (lenI way - 1)) = false:=by
        rw [zo1,zh (by omega) (by omega)]; simp; omega
      have hwe:w64 (endAt p way i + lenP p (way.getD i M0).1) = endAt p way (i + 1):=by
        rw [← hml,← hsx,zh (by omega) (by omega)]
      unfold ixF
      by_cases hc:f < endAt p way (i + 1)
      · rw [if_pos (decide_eq_true hc)]
        refine Lp.done ?_
        simp only [zr1 hil,cond_true]
        rw [zf1 M0 hil,Option.bind_some,zt16 hp (hw.m i hil),Option.bind_some]
        simp only [Option.bind_some,hr,hwe,decide_eq_true hc,cond_true]
        unfold slpAt at *
        cases h:(way.getD i M0).2.1 with
        | true =>
          rw [h] at hs
          simp only [if_true] at hs
          simp only [cond_true,if_true]
          rw [zh (by omega) (by omega),Int.zero_sub]
        | false=>rfl
      · rw [if_neg (by rw [decide_eq_true_eq]; exact hc)]
        refine Lp.step ?_ (ih (i + 1) (by omega))
        simp only [zr1 hil,cond_true]
        rw [zf1 M0 hil,Option.bind_some,zt16 hp (hw.m i hil),Option.bind_some]
        simp only [hlast,hwe,decide_eq_false hc,cond_false,zc1 (show i < 9223372036854775807 by omega)]
  have hL:=(key (way.length - 1) 0 (by omega)).big (by simp only [big]; omega)
  have h0:endAt p way 0 = 0:=rfl
  rw [h0,show ((0:Nat):Int) = 0 from rfl] at hL
  exact congrArg (fun o=>Option.bind o fun t61:Unit ⊕ Int=>alt (fun _=>some 0) (fun b64=>some b64) t61) hL
end
end Go.Ai.Sx

/- Motion: the reference's limit over the parts that a train covers. -/
namespace Go.Ai.Sx
section
variable {p:Plan} {way:List AMove} {t:Train} {st:Int} {stops:List Int} {x:MotionState} (hp:PlOk p) (hw:WayOk p way) (ht:TrOk t)
include hp hw ht
def CovOk (p:Plan) (way:List AMove) (t:Train) (f:Int) (k:Nat) (C:List Cover):Prop:=C.length ≤ k ∧ (∀ c ∈ C,0 ≤ c.1 ∧ c.1 < (p.2.1.length:Int)) ∧ ∀ b:Int,C.foldl (fun b c=>min b (rl0 p c.1).2.2.2.1) b = limF (ovB p way t.2.1 f) (limAt p way) k 0 b
omit hp hw ht in
theorem zk35 {f:Int} {k:Nat} {C:List Cover} (h:CovOk p way t f k C) (hg:ovB p way t.2.1 f k = false):CovOk p way t f (k + 1) C:=by
 obtain ⟨h1,h2,h3⟩:=h
 refine ⟨by omega,h2,fun b=>?_⟩
 rw [h3,za11 _ _ 1 k 0,limF,limF,Nat.zero_add,hg]
 rfl
omit hp ht in
theorem zw31 {f:Int} {k:Nat} {C:List Cover} (h:CovOk p way t f k C) (hk:k < way.length) (hg:ovB p way t.2.1 f k = true) (a b:Int):CovOk p way t f (k + 1) (C ++ [((way.getD k M0).1,a,b,())]):=by
 obtain ⟨h1,h2,h3⟩:=h
 refine ⟨by simp; omega,fun c hc=>?_,fun b=>?_⟩
 ·rw [List.mem_append,List.mem_singleton] at hc
  rcases hc with hc | rfl
  ·exact h2 c hc
  ·exact hw.m k hk
 rw [List.foldl_append,h3,za11 _ _ 1 k 0,limF,limF,Nat.zero_add,if_pos hg]
 rfl
theorem zx31 {f:Int} (hf:1 ≤ f ∧ f ≤ 4000000000000000000):∃ C,zq6 p way f t.2.1 = some C ∧ CovOk p way t f way.length C:=by
  have hn:=hw.n
  have hl:=ht.len
  unfold zq6
  have hT:=Tot.iter (σ:=(List Cover × Int × Int)) (τ:=List Cover) (f:=fun s15 =>
cond ((decide (s15.2.2 < (lenI way)))) (Option.bind (idx way s15.2.2) fun x20 =>
Option.bind (zf2 p x20.1) fun y21 =>
cond ((decide ((w64 ((max ((w64 (f - t.2.1))) s15.2.1) - s15.2.1)) ≥ (w64 ((min f ((w64 (s15.2.1 + y21)))) - s15.2.1))))) (some (.inl ((s15.1,(w64 (s15.2.1 + y21)),(w64 (s15.2.2 + 1)))))) (Option.bind (idx way s15.2.2) fun x23 =>
cond (x23.2.1) (Option.bind (idx way s15.2.2) fun x25 =>
Option.bind (appO 24 s15.1 ([((x25.1,(w64 (y21 - (w64 ((min f ((w64 (s15.2.1 + y21)))) - s15.2.1)))),(w64 (y21 - (w64 ((max ((w64 (f - t.2.1))) s15.2.1) - s15.2.1)))),()):Cover)])) fun x26 =>
some (.inl ((x26,(w64 (s15.2.1 + y21)),(w64 (s15.2.2 + 1)))))) (Option.bind (idx way s15.2.2) fun x28 =>
Option.bind (appO 24 s15.1 ([((x28.1,(w64 ((max ((w64 (f - t.2.1))) s15.2.1) - s15.2.1)),(w64 ((min f ((w64 (s15.2.1 + y21)))) - s15.2.1)),()):Cover)])) fun x29 =>
some (.inl ((x29,(w64 (s15.2.1 + y21)),(w64 (s15.2.2 + 1)))))))) (some (.inr s15.1)))
    (fun s=>∃ (i:Nat) (C:List Cover),s = (C,endAt p way i,(i:Int)) ∧ i ≤ way.length ∧ CovOk p way t f i C) (fun C=>CovOk p way t f way.length C) (fun s=>way.length - s.2.2.toNat) (n:=big) (s:=([],0,0)) ⟨0,[],rfl,by omega,by simp,by simp,fun b=>rfl⟩ (by simp only [big]; omega) (by
      rintro s ⟨i,C,rfl,hi,hC⟩
      simp only []
      by_cases hil:i < way.length
      · have hb:=zy10 hp hw (i:=i) (by omega)
        have hb1:=zy10 hp hw (i:=i + 1) (by omega)
        have hsx:=zx10 p way i
        have hml:mvl p way i = lenP p (way.getD i M0).1:=rfl
        have hmb:=zt31 hp hw hil
        have hwe:w64 (endAt p way i + lenP p (way.getD i M0).1) = endAt p way (i + 1):=by
          rw [← hml,← hsx,zh (by omega) (by omega)]
        rw [zr1 hil,cond_true,zf1 M0 hil,Option.bind_some,zt16 hp (hw.m i hil),Option.bind_some,hwe]
        rw [zh (n:=f - t.2.1) (by omega) (by omega),zh (n:=max (f - t.2.1) (endAt p way i) - endAt p way i) (by omega) (by omega),zh (n:=min f (endAt p way (i + 1)) - endAt p way i) (by omega) (by omega)]
        have hov:ovB p way t.2.1 f i = !decide (max (f - t.2.1) (endAt p way i) - endAt p way i ≥ min f (endAt p way (i + 1)) - endAt p way i):=by
          unfold ovB
          have h0:i = 0 → endAt p way i = 0:=fun h=>by subst h; rfl
          by_cases e:max (f - t.2.1) (endAt p way i) - endAt p way i ≥ min f (endAt p way (i + 1)) - endAt p way i
          · rw [decide_eq_true e]
            by_cases e1:f - t.2.1 < endAt p way (i + 1)
            · rw [decide_eq_false (show ¬ endAt p way i < f by omega),decide_eq_false (show ¬ i = 0 by omega)]; simp
            · rw [decide_eq_false e1]; rfl
          · rw [decide_eq_false e,decide_eq_true (show f - t.2.1 < endAt p way (i + 1) by omega),decide_eq_true (show endAt p way i < f by omega)]; rfl
        by_cases e:max (f - t.2.1) (endAt p way i) - endAt p way i ≥ min f (endAt p way (i + 1)) - endAt p way i
        · rw [decide_eq_true e] at hov ⊢
          rw [cond_true,zc1 (by omega)]
          exact Tot.some ⟨⟨i + 1,C,rfl,by omega,zk35 hC hov⟩,by simp only [Int.toNat_natCast]; omega⟩
        · rw [decide_eq_false e] at hov ⊢
          have hcl:=hC.1
          rw [cond_false,Option.bind_some]
          have happ:∀ a b:Int,appO 24 C [((way.getD i M0).1,a,b,())] = some (C ++ [((way.getD i M0).1,a,b,())]):=fun a b=>zf5 (by simp; omega)
          simp only [Option.bind_some,happ,zc1 (show i < 9223372036854775807 by omega)]
          cases (way.getD i M0).2.1 with
          | true=>exact Tot.some ⟨⟨i + 1,_,rfl,by omega,zw31 hw hC hil hov _ _⟩,by simp only [Int.toNat_natCast]; omega⟩
          | false=>exact Tot.some ⟨⟨i + 1,_,rfl,by omega,zw31 hw hC hil hov _ _⟩,by simp only [Int.toNat_natCast]; omega⟩
      · have:i = way.length:=by omega
        subst this
        rw [zb2,cond_false]
        exact Tot.some hC)
  obtain ⟨C,h1,h2⟩:=hT
  exact ⟨C,by rw [h1]; rfl,h2⟩
theorem zo8 {f:Int} (hf:1 ≤ f ∧ f ≤ 4000000000000000000):zh6 p way t f = some (limS p way t f):=by
  have hn:=hw.n
  obtain ⟨C,h1,h2,h3,h4⟩:=zx31 hp hw ht hf
  unfold zh6
  rw [h1,Option.bind_some]
  have hL:=zb6 (f:=fun s8:Int × Int =>
cond ((decide (s8.2 < (lenI C)))) (Option.bind (idx C s8.2) fun x13 =>
Option.bind (idx p.2.1 x13.1) fun x14 =>
some (.inl (((min s8.1 x14.2.2.2.1),(w64 (s8.2 + 1)))))) (some (.inr s8.1))) C (fun i b=>(b,(i:Int))) (fun _ b c=>(.inl (min b (rl0 p c.1).2.2.2.1):Int ⊕ Int)) (fun b=>b) (fun _ _=>True) t.2.2.1 (s0:=(t.2.2.1,0)) rfl (by omega) trivial (fun i h b _=>by
      refine ⟨?_,fun _ _=>trivial⟩
      simp only []
      rw [zr1 h,cond_true,zt9,List.getElem?_eq_getElem h,Option.bind_some]
      have hc:=h3 C[i] (List.getElem_mem h)
      have hr:idx p.2.1 C[i].1 = some (rl0 p C[i].1):=zi6 hc.1 hc.2
      rw [hr,Option.bind_some,zc1 (by omega)]) (fun b _=>by simp only [zb2,cond_false])
  rw [hL,zv10,h4]
  rfl
end
end Go.Ai.Sx

/- Motion: what is safe. -/
namespace Go.Ai.Sx
section
variable (p:Plan) (way:List AMove) (t:Train) (st stop:Int)
def slS (y:MotionState):Int:=slopeS p way (placeS t y)
def fitsB (x:MotionState):Bool:=decide (placeS t x ≤ stop) && decide (x.1 / t.1 ≤ limS p way t (placeS t x))
def nxS (x:MotionState):za4 × Bool:=stepS t st x (-4) (slS p way t x)
def tailN:Nat → MotionState → Bool
 | 0,x=>x.1 == 0
 | n + 1,x=>x.1 == 0 || ((nxS p way t st x).2 && (fitsB p way t stop (nxS p way t st x).1.1 && tailN n (nxS p way t st x).1.1))
def safeB (x:MotionState):Bool:=fitsB p way t stop x && tailN p way t st stop 36000 x
end
section
variable {p:Plan} {way:List AMove} {t:Train} {st:Int} {stops:List Int} {x:MotionState} (hp:PlOk p) (hw:WayOk p way) (ht:TrOk t) (hst:0 ≤ st ∧ st < t.2.2.2.2.2.2.2.2.2.1.length)
include hp hw ht hst
theorem zy31 (hx:StOk t x) (stop:Int):zn3 (runS p way t st stops) x stop = some (fitsB p way t stop x):=by
 have hf:Fin3 t st 0 0:=⟨hst,by omega,by omega⟩
 unfold zn3
 show (Option.bind (Option.bind (zp (t,st,()) x) fun y10=>cond ((decide (y10 ≤ stop))) (Option.bind (zr2 (t,st,()) x) _) _) _) = _
 rw [(zx8 ht hx st).1,Option.bind_some,(zp13 ht hf hx).1,Option.bind_some,zj35 hp hw ht hx,Option.bind_some]
 unfold fitsB placeS
 cases decide (x.2.1 / (10 * t.1) ≤ stop) <;> rfl
theorem zi40 (hx:0 ≤ x.1 ∧ x.1 ≤ 25000 * t.1) (hwx:0 ≤ x.2.1 ∧ x.2.1 ≤ 1000000000000000000) (stop:Int):ze4 (runS p way t st stops) x stop = some (safeB p way t st stop x):=by
  unfold ze4
  rw [zy31 hp hw ht hst ⟨hx,hwx.1,by omega⟩ stop,Option.bind_some]
  unfold safeB
  cases hfi:fitsB p way t stop x with
  | false=>rfl
  | true =>
    have hm:zp2 (runS p way t st stops).1 x (fun y=>zy (runS p way t st stops) y) = some (x,(t,st,()),fun y=>zy (runS p way t st stops) y):=rfl
    simp only [Bool.not_true,cond_false,hm,Option.bind_some,Bool.true_and]
    have hS:=zn16 (σ:=Int × Int) (τ:=Int × Int) (t:=t) (st:=st) (sl:=slS p way t) (f:=fun y=>zy (runS p way t st stops) y)
      (step:=fun s16 x9=>Option.bind (zn3 (runS p way t st stops) x9 stop) fun y19 =>
cond ((!y19)) (some (.inr ((s16.1,s16.2)))) (some (.inl ((x9.1,x9.2.1)))))
      (g:=fun s y=>if fitsB p way t stop y then .inl (y.1,y.2.1) else .inr (s.1,s.2)) (W:=4000000000000000000) ht hst (by omega)
      (fun y h1 h2=>⟨zh35 hp hw ht ⟨h1,h2⟩,zz10 hp hw ht ⟨h1,h2⟩ _⟩)
      (fun s y h1 h2=>by
        rw [zy31 hp hw ht hst ⟨h1,h2⟩ stop,Option.bind_some]
        cases fitsB p way t stop y <;> rfl) (x.1,x.2.1) x hx ⟨hwx.1,by omega⟩
    obtain ⟨z,hz⟩:=hS
    rw [hz,Option.bind_some]
    have key:∀ (n:Nat) (x:MotionState),(alt (fun b23:Int × Int=>some ((b23.1 == 0))) (fun _:Int × Int=>some false) (foldG (fun (s:Int × Int) (y:MotionState)=>if fitsB p way t stop y then .inl (y.1,y.2.1) else .inr (s.1,s.2)) (x.1,x.2.1) (brk t st (slS p way t) n x)):Option Bool) = some (tailN p way t st stop n x):=by
      intro n
      induction n with
      | zero=>intro x; rfl
      | succ n ih =>
        intro x
        unfold brk tailN
        by_cases h0:x.1 = 0
        · rw [if_pos h0,show (x.1 == 0) = true by simpa using h0]
          simp only [foldG,zz3,h0]; rfl
        · rw [if_neg h0,show (x.1 == 0) = false by simpa using h0]
          show alt _ _ (foldG _ _ (if (nxS p way t st x).2 = true then (nxS p way t st x).1.1 :: brk t st (slS p way t) n (nxS p way t st x).1.1 else [])) = _
          cases hok:(nxS p way t st x).2 with
          | false =>
            simp only [Bool.false_eq_true,if_false,foldG,zz3,Bool.false_and,Bool.or_false]
            rw [show (x.1 == 0) = false by simpa using h0]
          | true =>
            simp only [if_true,foldG,Bool.true_and,Bool.false_or]
            cases hfy:fitsB p way t stop (nxS p way t st x).1.1 with
            | false=>rfl
            | true =>
              simp only [if_true,Bool.true_and]
              exact ih _
    exact key 36000 x
theorem zl35 (hx:0 ≤ x.1 ∧ x.1 ≤ 25000 * t.1) (hwx:10 * t.1 ≤ x.2.1 ∧ x.2.1 ≤ 1000000000000000000) (stop:Int):ze7 (p,way,t,st,stop,()) x = some (safeB p way t st stop x):=by
  have hm:=ht.m
  unfold ze7
  have key:∀ (n k:Nat) (v w:Int),k + n = 36000 → 0 ≤ v ∧ v ≤ 25000 * t.1 → 10 * t.1 ≤ w ∧ w + 2000000000 * n ≤ 2000000000000000000 → ∃ T:Bool × Int × Int,T.1 = (fitsB p way t stop (v,w,()) && tailN p way t st stop n (v,w,())) ∧ Lp (fun s54:Int × Int × Int =>
Option.bind (zu t ((s54.2.1,s54.2.2,()))) fun y66 =>
cond ((decide (y66 > stop))) (some (.inr (((false,s54.2.1,s54.2.2))))) (Option.bind (divO .i64 s54.2.1 t.1) fun x69 =>
Option.bind (zu t ((s54.2.1,s54.2.2,()))) fun y70 =>
Option.bind (zh6 p way t y70) fun y71 =>
cond ((decide (x69 > y71))) (some (.inr (((false,s54.2.1,s54.2.2))))) (cond ((s54.2.1 == 0)) (some (.inr (((true,s54.2.1,s54.2.2))))) (cond ((s54.1 == 36000)) (some (.inr (((false,s54.2.1,s54.2.2))))) (Option.bind (zu t ((s54.2.1,s54.2.2,()))) fun y78 =>
Option.bind (zw2 (p,way,t,st,stop,()) y78) fun y79 =>
Option.bind (zh2 t ((s54.2.1,s54.2.2,())) ((-4)) y79 st) fun y80 =>
cond ((!y80.2.2)) (some (.inr (((false,y80.1.1,y80.1.2.1))))) (some (.inl (((w64 (s54.1 + 1)),y80.1.1,y80.1.2.1))))))))) n ((k:Int),v,w) T:=by
    intro n
    induction n with
    | zero =>
      intro k v w hk hv hww
      have:k = 36000:=by omega
      subst this
      have hso:StOk t (v,w,()):=⟨hv,⟨by show 0 ≤ w; omega,by show w ≤ _; omega⟩⟩
      have hf0:Fin3 t st 0 0:=⟨hst,by omega,by omega⟩
      have hpl:1 ≤ placeS t (v,w,()) ∧ placeS t (v,w,()) ≤ 4000000000000000000:=by
        refine ⟨?_,(place0 hp hw ht hso).2⟩
        show 1 ≤ w / (10 * t.1)
        exact (Int.le_ediv_iff_mul_le (by omega)).2 (by omega)
      have e0:zu t (v,w,()) = some (placeS t (v,w,())):=(zx8 ht hso st).2
      have e1:divO .i64 v t.1 = some (v / t.1):=(zp13 ht hf0 hso).2
      by_cases c1:placeS t (v,w,()) ≤ stop
      · by_cases c2:v / t.1 ≤ limS p way t (placeS t (v,w,()))
        · have hfb:fitsB p way t stop (v,w,()) = true:=by
            unfold fitsB
            rw [decide_eq_true c1,decide_eq_true (show (v,w,()).1 / t.1 ≤ limS p way t (placeS t (v,w,())) from c2)]; rfl
          rw [hfb]
          by_cases h0:v = 0
          · subst h0
            refine ⟨(true,0,w),rfl,Lp.done ?_⟩
            simp only [e0,Option.bind_some,e1,zo8 hp hw ht hpl,decide_eq_false (show ¬ placeS t (0,w,()) > stop by omega),decide_eq_false (show ¬ (0:Int) / t.1 > limS p way t (placeS t (0,w,())) by omega),cond_false]
            rfl
          · have hb:(v == 0) = false:=by simpa using h0
            refine ⟨(false,v,w), ?_,Lp.done ?_⟩
            · show false = (true && (v == 0)); rw [hb]; rfl
            simp only [e0,Option.bind_some,e1,zo8 hp hw ht hpl,decide_eq_false (show ¬ placeS t (v,w,()) > stop by omega),decide_eq_false (show ¬ v / t.1 > limS p way t (placeS t (v,w,())) by omega),cond_false,hb]
            rfl
        · refine ⟨(false,v,w), ?_,Lp.done ?_⟩
          · unfold fitsB
            rw [decide_eq_false (show ¬ (v,w,()).1 / t.1 ≤ limS p way t (placeS t (v,w,())) from c2),Bool.and_false]; rfl
          simp only [e0,Option.bind_some,e1,zo8 hp hw ht hpl,decide_eq_false (show ¬ placeS t (v,w,()) > stop by omega),decide_eq_true (show v / t.1 > limS p way t (placeS t (v,w,())) by omega),cond_false,cond_true]
      · refine ⟨(false,v,w), ?_,Lp.done ?_⟩
        · unfold fitsB
          rw [decide_eq_false c1]; rfl
        simp only [e0,Option.bind_some,decide_eq_true (show placeS t (v,w,()) > stop by omega),cond_true]
    | succ n ih =>
      intro k v w hk hv hww
      have hk0:((k:Int) == 36000) = false:=by simp; omega
      have hso:StOk t (v,w,()):=⟨hv,⟨by show 0 ≤ w; omega,by show w ≤ _; omega⟩⟩
      have hf0:Fin3 t st 0 0:=⟨hst,by omega,by omega⟩
      have hpl:1 ≤ placeS t (v,w,()) ∧ placeS t (v,w,()) ≤ 4000000000000000000:=by
        refine ⟨?_,(place0 hp hw ht hso).2⟩
        show 1 ≤ w / (10 * t.1)
        exact (Int.le_ediv_iff_mul_le (by omega)).2 (by omega)
      have e0:zu t (v,w,()) = some (placeS t (v,w,())):=(zx8 ht hso st).2
      have e1:divO .i64 v t.1 = some (v / t.1):=(zp13 ht hf0 hso).2
      by_cases c1:placeS t (v,w,()) ≤ stop
      · by_cases c2:v / t.1 ≤ limS p way t (placeS t (v,w,()))
        · have hfb:fitsB p way t stop (v,w,()) = true:=by
            unfold fitsB
            rw [decide_eq_true c1,decide_eq_true (show (v,w,()).1 / t.1 ≤ limS p way t (placeS t (v,w,())) from c2)]; rfl
          rw [hfb]
          unfold tailN
          by_cases h0:v = 0
          · subst h0
            refine ⟨(true,0,w),rfl,Lp.done ?_⟩
            simp only [e0,Option.bind_some,e1,zo8 hp hw ht hpl,decide_eq_false (show ¬ placeS t (0,w,()) > stop by omega),decide_eq_false (show ¬ (0:Int) / t.1 > limS p way t (placeS t (0,w,())) by omega),cond_false]
            rfl
          · have hb:(v == 0) = false:=by simpa using h0
            have hsl:=zz10 hp hw ht hso (placeS t (v,w,()))
            have hfin:Fin3 t st (-4) (slopeS p way (placeS t (v,w,()))):=⟨hst,by omega,hsl⟩
            have hstep:zh2 t (v,w,()) (-4) (slopeS p way (placeS t (v,w,()))) st = some ((nxS p way t st (v,w,())).1.1,(nxS p way t st (v,w,())).1.2.1,(nxS p way t st (v,w,())).2):=zt19 ht hfin hso
            have hbx:(((v,w,()):MotionState).1 == 0) = false:=hb
            rw [hbx]
            cases hok:(nxS p way t st (v,w,())).2 with
            | false =>
              refine ⟨(false,(nxS p way t st (v,w,())).1.1.1,(nxS p way t st (v,w,())).1.1.2.1),rfl,Lp.done ?_⟩
              simp only [e0,Option.bind_some,e1,zo8 hp hw ht hpl,decide_eq_false (show ¬ placeS t (v,w,()) > stop by omega),decide_eq_false (show ¬ v / t.1 > limS p way t (placeS t (v,w,())) by omega),cond_false,hb,hk0,zm9 hp hw ht (show 0 ≤ placeS t (v,w,()) ∧ placeS t (v,w,()) ≤ 4000000000000000000 by omega),hstep,hok,Bool.not_false,cond_true]
            | true =>
              obtain ⟨n1,n2⟩:=zk9 ht hfin hv ⟨by show 0 ≤ w; omega,by show w ≤ _; omega⟩ hok
              have n1':0 ≤ (nxS p way t st (v,w,())).1.1.1 ∧ (nxS p way t st (v,w,())).1.1.1 ≤ 25000 * t.1:=n1
              have n2':(nxS p way t st (v,w,())).1.1.2.1 = w + (nxS p way t st (v,w,())).1.1.1:=n2
              obtain ⟨T,h1,h2⟩:=ih (k + 1) (nxS p way t st (v,w,())).1.1.1 (nxS p way t st (v,w,())).1.1.2.1 (by omega) n1' (by omega)
              refine ⟨T, ?_,Lp.step ?_ h2⟩
              · rw [h1]; rfl
              simp only [e0,Option.bind_some,e1,zo8 hp hw ht hpl,decide_eq_false (show ¬ placeS t (v,w,()) > stop by omega),decide_eq_false (show ¬ v / t.1 > limS p way t (placeS t (v,w,())) by omega),cond_false,hb,hk0,zm9 hp hw ht (show 0 ≤ placeS t (v,w,()) ∧ placeS t (v,w,()) ≤ 4000000000000000000 by omega),hstep,hok,Bool.not_true]
              rw [zc1 (by omega)]
        · refine ⟨(false,v,w), ?_,Lp.done ?_⟩
          · unfold fitsB
            rw [decide_eq_false (show ¬ (v,w,()).1 / t.1 ≤ limS p way t (placeS t (v,w,())) from c2),Bool.and_false]; rfl
          simp only [e0,Option.bind_some,e1,zo8 hp hw ht hpl,decide_eq_false (show ¬ placeS t (v,w,()) > stop by omega),decide_eq_true (show v / t.1 > limS p way t (placeS t (v,w,())) by omega),cond_false,cond_true]
      · refine ⟨(false,v,w), ?_,Lp.done ?_⟩
        · unfold fitsB
          rw [decide_eq_false c1]; rfl
        simp only [e0,Option.bind_some,decide_eq_true (show placeS t (v,w,()) > stop by omega),cond_true]
  obtain ⟨T,h1,h2⟩:=key 36000 0 x.1 x.2.1 (by omega) hx (by omega)
  rw [show ((0:Nat):Int) = 0 from rfl] at h2
  have hB:=h2.big (by simp only [big]; omega)
  have:=congrArg (fun o=>Option.bind o fun t82:Bool × Int × Int=>some t82.1) hB
  exact this.trans (congrArg some h1)
end
end Go.Ai.Sx

/- Motion: the first safe demand. -/
namespace Go.Ai.Sx
def drvF (ok:Int → Bool):Nat → Int → Option Int
 | 0,_=>none
 | n + 1,d=>if ok d then some d else drvF ok n (d - 1)
theorem zv16 {ok:Int → Bool}:∀ {n:Nat} {d e:Int},drvF ok n d = some e → ok e = true ∧ d - n < e ∧ e ≤ d
 | 0,_,_,h=>by cases h
 | n + 1,d,e,h=>by
  rw [drvF] at h
  split at h
  ·rename_i hk
   cases h
   exact ⟨hk,by omega,by omega⟩
  ·obtain ⟨h1,h2,h3⟩:=zv16 h
   exact ⟨h1,by omega,by omega⟩
section
variable (p:Plan) (way:List AMove) (t:Train) (st stop:Int)
def stpS (x:MotionState) (d:Int):za4 × Bool:=stepS t st x d (slS p way t x)
def okD (x:MotionState) (d:Int):Bool:=(stpS p way t st x d).2 && safeB p way t st stop (stpS p way t st x d).1.1
def drvS (x:MotionState):Option Int:=drvF (okD p way t st stop x) 9 4
end
def flatS (s:za4):Bool × Int × Int × Int × Int × Int × Int × Int × Int × Int × Int:=(true,s.1.1,s.1.2.1,s.2.1.1,s.2.1.2.1,s.2.1.2.2.1,s.2.1.2.2.2.1,s.2.1.2.2.2.2.1,s.2.1.2.2.2.2.2.1,s.2.2.1,s.2.2.2.1)
section
variable {p:Plan} {way:List AMove} {t:Train} {st:Int} {stops:List Int} {x:MotionState} (hp:PlOk p) (hw:WayOk p way) (ht:TrOk t) (hst:0 ≤ st ∧ st < t.2.2.2.2.2.2.2.2.2.1.length)
include hp hw ht hst
theorem zl22 (hx:0 ≤ x.1 ∧ x.1 ≤ 25000 * t.1) (hwx:0 ≤ x.2.1 ∧ x.2.1 ≤ 500000000000000000) (stop:Int):zl2 (runS p way t st stops) x stop = some (match drvS p way t st stop x with | some d=>((stpS p way t st x d).1,true) | none=>(((0,0,()),(0,0,0,0,0,0,()),0,0,()),false)):=by
  have hm:=ht.m
  have hso:StOk t x:=⟨hx,⟨hwx.1,by omega⟩⟩
  have hsl:=zz10 hp hw ht hso (placeS t x)
  unfold zl2
  rw [zh35 hp hw ht hso,Option.bind_some]
  have key:∀ (n k:Nat),k + n = 9 → Lp (fun s26:Bool × Int × Int × Int × Int × Int × Int × Int × Int × Int × Int × Int =>
cond ((decide (s26.2.1 < 9))) (Option.bind (zq1 (runS p way t st stops).1 x ((w64 (4 - s26.2.1))) (slopeS p way (placeS t x))) fun y31 =>
cond (y31.2) (Option.bind (ze4 (runS p way t st stops) y31.1.1 stop) fun y36 =>
cond (y36) (some (.inr (((true,y31.1.1.1,y31.1.1.2.1,y31.1.2.1.1,y31.1.2.1.2.1,y31.1.2.1.2.2.1,y31.1.2.1.2.2.2.1,y31.1.2.1.2.2.2.2.1,y31.1.2.1.2.2.2.2.2.1,y31.1.2.2.1,y31.1.2.2.2.1):Bool × Int × Int × Int × Int × Int × Int × Int × Int × Int × Int)))) (some (.inl ((s26.1,(w64 (s26.2.1 + 1)),s26.2.2.1,s26.2.2.2.1,s26.2.2.2.2.1,s26.2.2.2.2.2.1,s26.2.2.2.2.2.2.1,s26.2.2.2.2.2.2.2.1,s26.2.2.2.2.2.2.2.2.1,s26.2.2.2.2.2.2.2.2.2.1,s26.2.2.2.2.2.2.2.2.2.2.1,s26.2.2.2.2.2.2.2.2.2.2.2))))) (some (.inl ((s26.1,(w64 (s26.2.1 + 1)),s26.2.2.1,s26.2.2.2.1,s26.2.2.2.2.1,s26.2.2.2.2.2.1,s26.2.2.2.2.2.2.1,s26.2.2.2.2.2.2.2.1,s26.2.2.2.2.2.2.2.2.1,s26.2.2.2.2.2.2.2.2.2.1,s26.2.2.2.2.2.2.2.2.2.2.1,s26.2.2.2.2.2.2.2.2.2.2.2))))) (some (.inr (((s26.1,s26.2.2.1,s26.2.2.2.1,s26.2.2.2.2.1,s26.2.2.2.2.2.1,s26.2.2.2.2.2.2.1,s26.2.2.2.2.2.2.2.1,s26.2.2.2.2.2.2.2.2.1,s26.2.2.2.2.2.2.2.2.2.1,s26.2.2.2.2.2.2.2.2.2.2.1,s26.2.2.2.2.2.2.2.2.2.2.2)))))) n (false,(k:Int),0,0,0,0,0,0,0,0,0,0) (match drvF (okD p way t st stop x) n (4 - k) with | some d=>flatS (stpS p way t st x d).1 | none=>(false,0,0,0,0,0,0,0,0,0,0)):=by
    intro n
    induction n with
    | zero =>
      intro k hk
      have:k = 9:=by omega
      subst this
      exact Lp.done rfl
    | succ n ih =>
      intro k hk
      have hfin:Fin3 t st (4 - k) (slopeS p way (placeS t x)):=⟨hst,by omega,hsl⟩
      have hstep:zq1 (runS p way t st stops).1 x (4 - (k:Int)) (slopeS p way (placeS t x)) = some (stpS p way t st x (4 - k)):=zb25 ht hfin hso
      have hnext:Lp _ _ _ _:=ih (k + 1) (by omega)
      rw [show (4 - ((k + 1:Nat):Int)) = 4 - (k:Int) - 1 by omega] at hnext
      have hok:okD p way t st stop x (4 - k) = ((stpS p way t st x (4 - k)).2 && safeB p way t st stop (stpS p way t st x (4 - k)).1.1):=rfl
      rw [drvF,hok]
      cases h1:(stpS p way t st x (4 - k)).2 with
      | false =>
        simp only [Bool.false_and,Bool.false_eq_true,if_false]
        refine Lp.step ?_ hnext
        simp only [decide_eq_true (show (k:Int) < 9 by omega),cond_true,zh (n:=4 - (k:Int)) (by omega) (by omega),hstep,Option.bind_some,h1,cond_false]
        rw [zc1 (by omega)]
      | true =>
        obtain ⟨n1,n2⟩:=zk9 ht hfin hx hso.w h1
        have n1':0 ≤ (stpS p way t st x (4 - k)).1.1.1 ∧ (stpS p way t st x (4 - k)).1.1.1 ≤ 25000 * t.1:=n1
        have n2':(stpS p way t st x (4 - k)).1.1.2.1 = x.2.1 + (stpS p way t st x (4 - k)).1.1.1:=n2
        have hsafe:=zi40 (stops:=stops) hp hw ht hst n1' (by omega) stop
        cases h2:safeB p way t st stop (stpS p way t st x (4 - k)).1.1 with
        | false =>
          simp only [Bool.and_false,Bool.false_eq_true,if_false]
          refine Lp.step ?_ hnext
          simp only [decide_eq_true (show (k:Int) < 9 by omega),cond_true,zh (n:=4 - (k:Int)) (by omega) (by omega),hstep,Option.bind_some,h1,hsafe,h2,cond_false]
          rw [zc1 (by omega)]
        | true =>
          simp only [Bool.and_true,if_true]
          refine Lp.done ?_
          simp only [decide_eq_true (show (k:Int) < 9 by omega),cond_true,zh (n:=4 - (k:Int)) (by omega) (by omega),hstep,Option.bind_some,h1,hsafe,h2]
          rfl
  have hB:=(key 9 0 rfl).big (by simp only [big]; omega)
  rw [show ((0:Nat):Int) = 0 from rfl] at hB
  refine (congrArg (fun o=>Option.bind o fun t39:Bool × Int × Int × Int × Int × Int × Int × Int × Int × Int × Int=>some ((((t39.2.1,t39.2.2.1,()),(t39.2.2.2.1,t39.2.2.2.2.1,t39.2.2.2.2.2.1,t39.2.2.2.2.2.2.1,t39.2.2.2.2.2.2.2.1,t39.2.2.2.2.2.2.2.2.1,()),t39.2.2.2.2.2.2.2.2.2.1,t39.2.2.2.2.2.2.2.2.2.2,()),t39.1):za4 × Bool)) hB).trans ?_
  rw [Option.bind_some]
  unfold drvS
  rw [show (4:Int) - 0 = 4 from rfl]
  cases drvF (okD p way t st stop x) 9 4 <;> rfl
theorem zm22 (hx:0 ≤ x.1 ∧ x.1 ≤ 25000 * t.1) (hwx:10 * t.1 ≤ x.2.1 ∧ x.2.1 ≤ 500000000000000000) (stop:Int):zt4 (p,way,t,st,stop,()) x = some (match drvS p way t st stop x with | some d=>(d,true) | none=>(0,false)):=by
  have hm:=ht.m
  have hso:StOk t x:=⟨hx,⟨by omega,by omega⟩⟩
  have hsl:=zz10 hp hw ht hso (placeS t x)
  have hpl:=place0 hp hw ht hso
  unfold zt4
  have key:∀ (n:Nat) (d:Int),d + 5 = n → d ≤ 4 → Lp (fun s18:Int =>
cond ((decide (s18 ≥ (-4)))) (Option.bind (zu t x) fun y26 =>
Option.bind (zw2 (p,way,t,st,stop,()) y26) fun y27 =>
Option.bind (zh2 t x s18 y27 st) fun y28 =>
cond (y28.2.2) (Option.bind (ze7 (p,way,t,st,stop,()) y28.1) fun y34 =>
cond (y34) (some (.inr ((.inr ((s18,true)))))) (some (.inl ((w64 (s18 - 1)))))) (some (.inl ((w64 (s18 - 1)))))) (some (.inr ((.inl (())))))) n d (match drvF (okD p way t st stop x) n d with | some e=>(.inr (e,true):Unit ⊕ (Int × Bool)) | none=>.inl ()):=by
    intro n
    induction n with
    | zero =>
      intro d hd _
      refine Lp.done ?_
      rw [decide_eq_false (by omega)]; rfl
    | succ n ih =>
      intro d hd hd4
      have hfin:Fin3 t st d (slopeS p way (placeS t x)):=⟨hst,by omega,hsl⟩
      have hstep:zh2 t x d (slopeS p way (placeS t x)) st = some ((stpS p way t st x d).1.1,(stpS p way t st x d).1.2.1,(stpS p way t st x d).2):=zt19 ht hfin hso
      have e0:zu t x = some (placeS t x):=(zx8 ht hso st).2
      have hnext:=ih (d - 1) (by omega) (by omega)
      have hok:okD p way t st stop x d = ((stpS p way t st x d).2 && safeB p way t st stop (stpS p way t st x d).1.1):=rfl
      rw [drvF,hok]
      cases h1:(stpS p way t st x d).2 with
      | false =>
        simp only [Bool.false_and,Bool.false_eq_true,if_false]
        refine Lp.step ?_ hnext
        simp only [decide_eq_true (show d ≥ -4 by omega),cond_true,e0,Option.bind_some,zm9 hp hw ht hpl,hstep,h1,cond_false,zh (n:=d - 1) (by omega) (by omega)]
      | true =>
        obtain ⟨n1,n2⟩:=zk9 ht hfin hx hso.w h1
        have n1':0 ≤ (stpS p way t st x d).1.1.1 ∧ (stpS p way t st x d).1.1.1 ≤ 25000 * t.1:=n1
        have n2':(stpS p way t st x d).1.1.2.1 = x.2.1 + (stpS p way t st x d).1.1.1:=n2
        have hsafe:=zl35 hp hw ht hst n1' (by omega) stop
        cases h2:safeB p way t st stop (stpS p way t st x d).1.1 with
        | false =>
          simp only [Bool.and_false,Bool.false_eq_true,if_false]
          refine Lp.step ?_ hnext
          simp only [decide_eq_true (show d ≥ -4 by omega),cond_true,e0,Option.bind_some,zm9 hp hw ht hpl,hstep,h1,hsafe,h2,cond_false,zh (n:=d - 1) (by omega) (by omega)]
        | true =>
          simp only [Bool.and_true,if_true]
          refine Lp.done ?_
          simp only [decide_eq_true (show d ≥ -4 by omega),cond_true,e0,Option.bind_some,zm9 hp hw ht hpl,hstep,h1,hsafe,h2]
  have hB:=(key 9 4 rfl (by omega)).big (by simp only [big]; omega)
  rw [hB,Option.bind_some]
  unfold drvS
  cases drvF (okD p way t st stop x) 9 4 <;> rfl
end
end Go.Ai.Sx

/- Motion: one leg. -/
namespace Go.Ai.Sx
def legF (p_0:zz1) (p_2:Int):((Int × Int × Int × Int × Int × Int × Int × Int × Int × Int × Int × Int × Int × Int × Int × Int × Int × Int × Int × Int × Int × Int × Int × Int × Int)) → Option (((Int × Int × Int × Int × Int × Int × Int × Int × Int × Int × Int × Int × Int × Int × Int × Int × Int × Int × Int × Int × Int × Int × Int × Int × Int)) ⊕ ((Bool × Int × Int × Int × Int × Int × Int × Int × Int × Int × Int × Int × Int × Int × Int × Int × Int × Int × Int × Int × Int × Int × Int × Int × Int))):=(fun s77 =>
Option.bind (zp p_0.1 ((s77.2.2.2.2.2.2.2.2.2.2.2.2.2.2.1,s77.2.2.2.2.2.2.2.2.2.2.2.2.2.2.2.1,()))) fun y80 =>
cond ((s77.2.2.2.2.2.2.2.2.2.2.2.2.2.2.1 == 0)) (Option.bind (zn ((w64 (p_2 - y80))) 0 1000) fun y84 =>
cond (y84) (some (.inr (((true,y80,s77.2.2.2.2.2.2.2.2.2.2.2.2.2.2.1,s77.2.2.2.2.2.2.2.2.2.2.2.2.2.2.2.1,s77.2.1,y80,s77.2.2.2.1,s77.2.2.2.2.1,s77.2.2.2.2.2.1,s77.2.2.2.2.2.2.1,s77.2.2.2.2.2.2.2.1,s77.2.2.2.2.2.2.2.2.1,s77.2.2.2.2.2.2.2.2.2.1,s77.2.2.2.2.2.2.2.2.2.2.1,s77.2.1,s77.2.2.2.1,s77.2.2.2.2.1,s77.2.2.2.2.2.1,s77.2.2.2.2.2.2.1,s77.2.2.2.2.2.2.2.1,s77.2.2.2.2.2.2.2.2.1,s77.2.2.2.2.2.2.2.2.2.1,s77.2.2.2.2.2.2.2.2.2.2.1,s77.2.2.2.2.2.2.2.2.2.2.2.2.2.2.1,s77.2.2.2.2.2.2.2.2.2.2.2.2.2.2.2.1))))) (cond ((s77.1 == 36000)) (some (.inr (((false,s77.2.2.1,s77.2.2.2.2.2.2.2.2.2.2.2.2.2.2.1,s77.2.2.2.2.2.2.2.2.2.2.2.2.2.2.2.1,s77.2.1,s77.2.2.1,s77.2.2.2.1,s77.2.2.2.2.1,s77.2.2.2.2.2.1,s77.2.2.2.2.2.2.1,s77.2.2.2.2.2.2.2.1,s77.2.2.2.2.2.2.2.2.1,s77.2.2.2.2.2.2.2.2.2.1,s77.2.2.2.2.2.2.2.2.2.2.1,s77.2.1,s77.2.2.2.1,s77.2.2.2.2.1,s77.2.2.2.2.2.1,s77.2.2.2.2.2.2.1,s77.2.2.2.2.2.2.2.1,s77.2.2.2.2.2.2.2.2.1,s77.2.2.2.2.2.2.2.2.2.1,s77.2.2.2.2.2.2.2.2.2.2.1,s77.2.2.2.2.2.2.2.2.2.2.2.2.2.2.1,s77.2.2.2.2.2.2.2.2.2.2.2.2.2.2.2.1))))) (Option.bind (zl2 p_0 ((s77.2.2.2.2.2.2.2.2.2.2.2.2.2.2.1,s77.2.2.2.2.2.2.2.2.2.2.2.2.2.2.2.1,())) p_2) fun y87 =>
cond ((!y87.2)) (some (.inr (((false,s77.2.2.1,s77.2.2.2.2.2.2.2.2.2.2.2.2.2.2.1,s77.2.2.2.2.2.2.2.2.2.2.2.2.2.2.2.1,s77.2.1,s77.2.2.1,s77.2.2.2.1,s77.2.2.2.2.1,s77.2.2.2.2.2.1,s77.2.2.2.2.2.2.1,s77.2.2.2.2.2.2.2.1,s77.2.2.2.2.2.2.2.2.1,s77.2.2.2.2.2.2.2.2.2.1,s77.2.2.2.2.2.2.2.2.2.2.1,s77.2.1,s77.2.2.2.1,s77.2.2.2.2.1,s77.2.2.2.2.2.1,s77.2.2.2.2.2.2.1,s77.2.2.2.2.2.2.2.1,s77.2.2.2.2.2.2.2.2.1,s77.2.2.2.2.2.2.2.2.2.1,s77.2.2.2.2.2.2.2.2.2.2.1,s77.2.2.2.2.2.2.2.2.2.2.2.2.2.2.1,s77.2.2.2.2.2.2.2.2.2.2.2.2.2.2.2.1))))) (cond ((decide (y87.1.1.2.1 > 10000000000000000))) (some (.inr (((false,s77.2.2.1,s77.2.2.2.2.2.2.2.2.2.2.2.2.2.2.1,s77.2.2.2.2.2.2.2.2.2.2.2.2.2.2.2.1,s77.2.1,s77.2.2.1,s77.2.2.2.1,s77.2.2.2.2.1,s77.2.2.2.2.2.1,s77.2.2.2.2.2.2.1,s77.2.2.2.2.2.2.2.1,s77.2.2.2.2.2.2.2.2.1,s77.2.2.2.2.2.2.2.2.2.1,s77.2.2.2.2.2.2.2.2.2.2.1,s77.2.1,s77.2.2.2.1,s77.2.2.2.2.1,s77.2.2.2.2.2.1,s77.2.2.2.2.2.2.1,s77.2.2.2.2.2.2.2.1,s77.2.2.2.2.2.2.2.2.1,s77.2.2.2.2.2.2.2.2.2.1,s77.2.2.2.2.2.2.2.2.2.2.1,s77.2.2.2.2.2.2.2.2.2.2.2.2.2.2.1,s77.2.2.2.2.2.2.2.2.2.2.2.2.2.2.2.1))))) (Option.bind (zi5 ([(s77.2.2.2.1,s77.2.2.2.2.1,s77.2.2.2.2.2.1,s77.2.2.2.2.2.2.1,s77.2.2.2.2.2.2.2.1,s77.2.2.2.2.2.2.2.2.1,()),y87.1.2.1])) fun y93 =>
some (.inl (((w64 (s77.1 + 1)),(w64 (s77.2.1 + 100)),s77.2.2.1,y93.1,y93.2.1,y93.2.2.1,y93.2.2.2.1,y93.2.2.2.2.1,y93.2.2.2.2.2.1,(max s77.2.2.2.2.2.2.2.2.2.1 y87.1.2.2.1),(max s77.2.2.2.2.2.2.2.2.2.2.1 y87.1.2.2.2.1),s77.2.2.2.2.2.2.2.2.2.2.2.1,s77.2.2.2.2.2.2.2.2.2.2.2.2.1,s77.2.2.2.2.2.2.2.2.2.2.2.2.2.1,y87.1.1.1,y87.1.1.2.1,s77.2.2.2.2.2.2.2.2.2.2.2.2.2.2.2.2.1,s77.2.2.2.2.2.2.2.2.2.2.2.2.2.2.2.2.2.1,s77.2.2.2.2.2.2.2.2.2.2.2.2.2.2.2.2.2.2.1,s77.2.2.2.2.2.2.2.2.2.2.2.2.2.2.2.2.2.2.2.1,s77.2.2.2.2.2.2.2.2.2.2.2.2.2.2.2.2.2.2.2.2.1,s77.2.2.2.2.2.2.2.2.2.2.2.2.2.2.2.2.2.2.2.2.2.1,s77.2.2.2.2.2.2.2.2.2.2.2.2.2.2.2.2.2.2.2.2.2.2.1,s77.2.2.2.2.2.2.2.2.2.2.2.2.2.2.2.2.2.2.2.2.2.2.2.1,s77.2.2.2.2.2.2.2.2.2.2.2.2.2.2.2.2.2.2.2.2.2.2.2.2)))))))) (cond ((s77.1 == 36000)) (some (.inr (((false,s77.2.2.1,s77.2.2.2.2.2.2.2.2.2.2.2.2.2.2.1,s77.2.2.2.2.2.2.2.2.2.2.2.2.2.2.2.1,s77.2.1,s77.2.2.1,s77.2.2.2.1,s77.2.2.2.2.1,s77.2.2.2.2.2.1,s77.2.2.2.2.2.2.1,s77.2.2.2.2.2.2.2.1,s77.2.2.2.2.2.2.2.2.1,s77.2.2.2.2.2.2.2.2.2.1,s77.2.2.2.2.2.2.2.2.2.2.1,s77.2.1,s77.2.2.2.1,s77.2.2.2.2.1,s77.2.2.2.2.2.1,s77.2.2.2.2.2.2.1,s77.2.2.2.2.2.2.2.1,s77.2.2.2.2.2.2.2.2.1,s77.2.2.2.2.2.2.2.2.2.1,s77.2.2.2.2.2.2.2.2.2.2.1,s77.2.2.2.2.2.2.2.2.2.2.2.2.2.2.1,s77.2.2.2.2.2.2.2.2.2.2.2.2.2.2.2.1))))) (Option.bind (zl2 p_0 ((s77.2.2.2.2.2.2.2.2.2.2.2.2.2.2.1,s77.2.2.2.2.2.2.2.2.2.2.2.2.2.2.2.1,())) p_2) fun y96 =>
cond ((!y96.2)) (some (.inr (((false,s77.2.2.1,s77.2.2.2.2.2.2.2.2.2.2.2.2.2.2.1,s77.2.2.2.2.2.2.2.2.2.2.2.2.2.2.2.1,s77.2.1,s77.2.2.1,s77.2.2.2.1,s77.2.2.2.2.1,s77.2.2.2.2.2.1,s77.2.2.2.2.2.2.1,s77.2.2.2.2.2.2.2.1,s77.2.2.2.2.2.2.2.2.1,s77.2.2.2.2.2.2.2.2.2.1,s77.2.2.2.2.2.2.2.2.2.2.1,s77.2.1,s77.2.2.2.1,s77.2.2.2.2.1,s77.2.2.2.2.2.1,s77.2.2.2.2.2.2.1,s77.2.2.2.2.2.2.2.1,s77.2.2.2.2.2.2.2.2.1,s77.2.2.2.2.2.2.2.2.2.1,s77.2.2.2.2.2.2.2.2.2.2.1,s77.2.2.2.2.2.2.2.2.2.2.2.2.2.2.1,s77.2.2.2.2.2.2.2.2.2.2.2.2.2.2.2.1))))) (cond ((decide (y96.1.1.2.1 > 10000000000000000))) (some (.inr (((false,s77.2.2.1,s77.2.2.2.2.2.2.2.2.2.2.2.2.2.2.1,s77.2.2.2.2.2.2.2.2.2.2.2.2.2.2.2.1,s77.2.1,s77.2.2.1,s77.2.2.2.1,s77.2.2.2.2.1,s77.2.2.2.2.2.1,s77.2.2.2.2.2.2.1,s77.2.2.2.2.2.2.2.1,s77.2.2.2.2.2.2.2.2.1,s77.2.2.2.2.2.2.2.2.2.1,s77.2.2.2.2.2.2.2.2.2.2.1,s77.2.1,s77.2.2.2.1,s77.2.2.2.2.1,s77.2.2.2.2.2.1,s77.2.2.2.2.2.2.1,s77.2.2.2.2.2.2.2.1,s77.2.2.2.2.2.2.2.2.1,s77.2.2.2.2.2.2.2.2.2.1,s77.2.2.2.2.2.2.2.2.2.2.1,s77.2.2.2.2.2.2.2.2.2.2.2.2.2.2.1,s77.2.2.2.2.2.2.2.2.2.2.2.2.2.2.2.1))))) (Option.bind (zi5 ([(s77.2.2.2.1,s77.2.2.2.2.1,s77.2.2.2.2.2.1,s77.2.2.2.2.2.2.1,s77.2.2.2.2.2.2.2.1,s77.2.2.2.2.2.2.2.2.1,()),y96.1.2.1])) fun y102 =>
some (.inl (((w64 (s77.1 + 1)),(w64 (s77.2.1 + 100)),s77.2.2.1,y102.1,y102.2.1,y102.2.2.1,y102.2.2.2.1,y102.2.2.2.2.1,y102.2.2.2.2.2.1,(max s77.2.2.2.2.2.2.2.2.2.1 y96.1.2.2.1),(max s77.2.2.2.2.2.2.2.2.2.2.1 y96.1.2.2.2.1),s77.2.2.2.2.2.2.2.2.2.2.2.1,s77.2.2.2.2.2.2.2.2.2.2.2.2.1,s77.2.2.2.2.2.2.2.2.2.2.2.2.2.1,y96.1.1.1,y96.1.1.2.1,s77.2.2.2.2.2.2.2.2.2.2.2.2.2.2.2.2.1,s77.2.2.2.2.2.2.2.2.2.2.2.2.2.2.2.2.2.1,s77.2.2.2.2.2.2.2.2.2.2.2.2.2.2.2.2.2.2.1,s77.2.2.2.2.2.2.2.2.2.2.2.2.2.2.2.2.2.2.2.1,s77.2.2.2.2.2.2.2.2.2.2.2.2.2.2.2.2.2.2.2.2.1,s77.2.2.2.2.2.2.2.2.2.2.2.2.2.2.2.2.2.2.2.2.2.1,s77.2.2.2.2.2.2.2.2.2.2.2.2.2.2.2.2.2.2.2.2.2.2.1,s77.2.2.2.2.2.2.2.2.2.2.2.2.2.2.2.2.2.2.2.2.2.2.2.1,s77.2.2.2.2.2.2.2.2.2.2.2.2.2.2.2.2.2.2.2.2.2.2.2.2))))))))
def legO:((Bool × Int × Int × Int × Int × Int × Int × Int × Int × Int × Int × Int × Int × Int × Int × Int × Int × Int × Int × Int × Int × Int × Int × Int × Int)) → Option (Leg × MotionState × Bool):=fun t103 =>
some (((t103.2.2.2.2.1,t103.2.2.2.2.2.1,(t103.2.2.2.2.2.2.1,t103.2.2.2.2.2.2.2.1,t103.2.2.2.2.2.2.2.2.1,t103.2.2.2.2.2.2.2.2.2.1,t103.2.2.2.2.2.2.2.2.2.2.1,t103.2.2.2.2.2.2.2.2.2.2.2.1,()),t103.2.2.2.2.2.2.2.2.2.2.2.2.1,t103.2.2.2.2.2.2.2.2.2.2.2.2.2.1,()),(t103.2.2.1,t103.2.2.2.1,()),t103.1))
theorem zd20 (a b:Int):w64 (w64 a + b) = w64 (a + b):=by
 simp only [w64,IntKind.wrap,IntKind.bits,IntKind.signed]; simp; omega
def addL (l m:MotionLedger):MotionLedger:=(w64 (l.1 + m.1),w64 (l.2.1 + m.2.1),w64 (l.2.2.1 + m.2.2.1),w64 (l.2.2.2.1 + m.2.2.2.1),w64 (l.2.2.2.2.1 + m.2.2.2.2.1),w64 (l.2.2.2.2.2.1 + m.2.2.2.2.2.1),())
theorem zl36 (l m:MotionLedger):zi5 [l,m] = some (addL l m):=by
 unfold zi5
 have hL:Lp (fun s9:Int × Int × Int × Int × Int × Int × Int =>
cond ((decide (s9.1 < (lenI [l,m])))) (Option.bind (idx [l,m] s9.1) fun x12 =>
some (.inl (((w64 (s9.1 + 1)),(w64 (s9.2.1 + x12.1)),(w64 (s9.2.2.1 + x12.2.1)),(w64 (s9.2.2.2.1 + x12.2.2.1)),(w64 (s9.2.2.2.2.1 + x12.2.2.2.1)),(w64 (s9.2.2.2.2.2.1 + x12.2.2.2.2.1)),(w64 (s9.2.2.2.2.2.2 + x12.2.2.2.2.2.1)))))) (some (.inr (((s9.2.1,s9.2.2.1,s9.2.2.2.1,s9.2.2.2.2.1,s9.2.2.2.2.2.1,s9.2.2.2.2.2.2)))))) 2 (0,0,0,0,0,0,0) (w64 (w64 (0 + l.1) + m.1),w64 (w64 (0 + l.2.1) + m.2.1),w64 (w64 (0 + l.2.2.1) + m.2.2.1),w64 (w64 (0 + l.2.2.2.1) + m.2.2.2.1),w64 (w64 (0 + l.2.2.2.2.1) + m.2.2.2.2.1),w64 (w64 (0 + l.2.2.2.2.2.1) + m.2.2.2.2.2.1)):=Lp.step rfl (Lp.step rfl (Lp.done rfl))
 rw [hL.big (by simp only [big]; omega),Option.bind_some]
 simp only [zd20,Int.zero_add]
 rfl
section
variable (p:Plan) (way:List AMove) (t:Train) (st stop:Int)
def arrB (x:MotionState):Bool:=x.1 == 0 && decide (stop - placeS t x ≤ 1000)
def legN:Nat → Int → MotionLedger → Int → Int → MotionState → Option (Leg × MotionState)
 | 0,tm,l,a,b,x=>if arrB t stop x then some ((tm,placeS t x,l,a,b,()),x) else none
 | n + 1,tm,l,a,b,x=>if arrB t stop x then some ((tm,placeS t x,l,a,b,()),x) else
  match drvS p way t st stop x with
  | none=>none
  | some d=>legN n (tm + 100) (addL l (stpS p way t st x d).1.2.1) (max a (stpS p way t st x d).1.2.2.1) (max b (stpS p way t st x d).1.2.2.2.1) (stpS p way t st x d).1.1
end
structure LgOk (t:Train) (stop:Int) (x:MotionState):Prop where
 p:0 ≤ x.1 ∧ x.1 ≤ 25000 * t.1
 w:10 * t.1 ≤ x.2.1 ∧ x.2.1 ≤ 1000000000000000
 s:placeS t x ≤ stop
section
variable {p:Plan} {way:List AMove} {t:Train} {st:Int} {stops:List Int} {x:MotionState} (hp:PlOk p) (hw:WayOk p way) (ht:TrOk t) (hst:0 ≤ st ∧ st < t.2.2.2.2.2.2.2.2.2.1.length) {stop:Int} (hS:stop ≤ 1000000000)
include hp hw ht hst hS
theorem zw16 (hx:LgOk t stop x) {d:Int} (hd:drvS p way t st stop x = some d):LgOk t stop (stpS p way t st x d).1.1 ∧ (stpS p way t st x d).1.1.2.1 = x.2.1 + (stpS p way t st x d).1.1.1 ∧ fitsB p way t stop (stpS p way t st x d).1.1 = true:=by
 obtain ⟨h1,h2,h3⟩:=zv16 hd
 unfold okD at h1
 rw [Bool.and_eq_true] at h1
 have hm:=ht.m
 have hxw:=hx.w
 have hso:StOk t x:=⟨hx.p,⟨by omega,by omega⟩⟩
 have hfin:Fin3 t st d (slS p way t x):=⟨hst,by omega,zz10 hp hw ht hso _⟩
 obtain ⟨n1,n2⟩:=zk9 ht hfin hx.p hso.w h1.1
 have hs:=h1.2
 unfold safeB at hs
 rw [Bool.and_eq_true] at hs
 have hf:=hs.1
 unfold fitsB at hf
 rw [Bool.and_eq_true,decide_eq_true_eq] at hf
 refine ⟨⟨n1, ?_,hf.1⟩,n2,hs.1⟩
 have n2':(stpS p way t st x d).1.1.2.1 = x.2.1 + (stpS p way t st x d).1.1.1:=n2
 have n1':0 ≤ (stpS p way t st x d).1.1.1 ∧ (stpS p way t st x d).1.1.1 ≤ 25000 * t.1:=n1
 refine ⟨by omega, ?_⟩
 have h5:=hf.1
 unfold placeS at h5
 have h6:(stpS p way t st x d).1.1.2.1 < (stop + 1) * (10 * t.1):=(Int.ediv_lt_iff_lt_mul (by omega)).1 (by omega)
 by_cases h0:0 ≤ stop + 1
 ·have h7:=zj4 (a:=stop + 1) (b:=10 * t.1) (A:=1000000001) (B:=800000) ⟨h0,by omega⟩ ⟨by omega,by omega⟩
  omega
 ·have h8:=Int.mul_nonneg (a:=-(stop + 1)) (b:=10 * t.1) (by omega) (by omega)
  rw [Int.neg_mul] at h8
  omega
section
variable {k:Nat} {tm l1 l2 l3 l4 l5 l6 a b v w:Int} (hx:LgOk t stop (v,w,()))
include hx
omit hp hw hst in
theorem zb11:StOk t (v,w,()) ∧ zp (runS p way t st stops).1 (v,w,()) = some (placeS t (v,w,())) ∧ zu t (v,w,()) = some (placeS t (v,w,())) ∧ 0 ≤ placeS t (v,w,()):=by
 have hm:=ht.m
 have hxw:10 * t.1 ≤ w ∧ w ≤ 1000000000000000:=hx.w
 have hso:StOk t (v,w,()):=⟨hx.p,⟨by show 0 ≤ w; omega,by show w ≤ _; omega⟩⟩
 have h0:0 ≤ w / (10 * t.1):=Int.ediv_nonneg (by omega) (by omega)
 exact ⟨hso,(zx8 ht hso st).1,(zx8 ht hso st).2,h0⟩
theorem zo25 (ha:arrB t stop (v,w,()) = true):∃ T,legF (runS p way t st stops) stop ((k:Int),tm,0,l1,l2,l3,l4,l5,l6,a,b,0,0,0,v,w,0,0,0,0,0,0,0,0,0) = some (.inr T) ∧ legO T = some ((tm,placeS t (v,w,()),(l1,l2,l3,l4,l5,l6,()),a,b,()),(v,w,()),true):=by
 obtain ⟨_,e0,_,h0⟩:=zb11 (stops:=stops) (st:=st) (p:=p) (way:=way) ht hS hx
 have hs:=hx.s
 unfold arrB at ha
 rw [Bool.and_eq_true,beq_iff_eq,decide_eq_true_eq] at ha
 obtain ⟨ha1,ha2⟩:=ha
 have ha1:v = 0:=ha1
 subst ha1
 have hin:inB (stop - placeS t (0,w,())) 0 1000 = true:=zo3.2 (by omega)
 unfold legF
 simp only [e0,Option.bind_some,show ((0:Int) == 0) = true from rfl,cond_true,mwithin,zh (n:=stop - placeS t (0,w,())) (by omega) (by omega),hin]
 exact ⟨_,rfl,rfl⟩
theorem zp25 (ha:arrB t stop (v,w,()) = false) (hk:k = 36000 ∨ drvS p way t st stop (v,w,()) = none):∃ T,legF (runS p way t st stops) stop ((k:Int),tm,0,l1,l2,l3,l4,l5,l6,a,b,0,0,0,v,w,0,0,0,0,0,0,0,0,0) = some (.inr T) ∧ ∃ L X,legO T = some (L,X,false):=by
 obtain ⟨hso,e0,_,h0⟩:=zb11 (stops:=stops) (st:=st) (p:=p) (way:=way) ht hS hx
 have hs:=hx.s
 have hm:=ht.m
 have hxw:10 * t.1 ≤ w ∧ w ≤ 1000000000000000:=hx.w
 have hc:=zl22 (stops:=stops) hp hw ht hst hx.p (show 0 ≤ ((v,w,()):MotionState).2.1 ∧ ((v,w,()):MotionState).2.1 ≤ 500000000000000000 from ⟨by show 0 ≤ w; omega,by show w ≤ _; omega⟩) stop
 unfold legF
 by_cases hv:v = 0
 ·subst hv
  have hin:inB (stop - placeS t (0,w,())) 0 1000 = false:=by
   cases h:inB (stop - placeS t (0,w,())) 0 1000 with
   | false=>rfl
   | true =>
    have:=zo3.1 h
    unfold arrB at ha
    rw [decide_eq_true (by omega)] at ha
    cases ha
  simp only [e0,Option.bind_some,show ((0:Int) == 0) = true from rfl,cond_true,mwithin,zh (n:=stop - placeS t (0,w,())) (by omega) (by omega),hin,cond_false]
  by_cases hk0:k = 36000
  ·subst hk0
   exact ⟨_,rfl,_,_,rfl⟩
  ·have hkb:((k:Int) == 36000) = false:=by simp; omega
   have hd:=hk.resolve_left hk0
   rw [hd] at hc
   simp only [hkb,cond_false,hc,Option.bind_some,Bool.not_false,cond_true]
   exact ⟨_,rfl,_,_,rfl⟩
 ·have hvb:(v == 0) = false:=by simpa using hv
  simp only [e0,Option.bind_some,hvb,cond_false]
  by_cases hk0:k = 36000
  ·subst hk0
   exact ⟨_,rfl,_,_,rfl⟩
  ·have hkb:((k:Int) == 36000) = false:=by simp; omega
   have hd:=hk.resolve_left hk0
   rw [hd] at hc
   simp only [hkb,cond_false,hc,Option.bind_some,Bool.not_false,cond_true]
   exact ⟨_,rfl,_,_,rfl⟩
theorem zj40 (ha:arrB t stop (v,w,()) = false) (hk:k < 36000) (htm:0 ≤ tm ∧ tm ≤ 3600000) {d:Int} (hd:drvS p way t st stop (v,w,()) = some d):legF (runS p way t st stops) stop ((k:Int),tm,0,l1,l2,l3,l4,l5,l6,a,b,0,0,0,v,w,0,0,0,0,0,0,0,0,0) = some (.inl (((k + 1:Nat):Int),tm + 100,0,(addL (l1,l2,l3,l4,l5,l6,()) (stpS p way t st (v,w,()) d).1.2.1).1,(addL (l1,l2,l3,l4,l5,l6,()) (stpS p way t st (v,w,()) d).1.2.1).2.1,(addL (l1,l2,l3,l4,l5,l6,()) (stpS p way t st (v,w,()) d).1.2.1).2.2.1,(addL (l1,l2,l3,l4,l5,l6,()) (stpS p way t st (v,w,()) d).1.2.1).2.2.2.1,(addL (l1,l2,l3,l4,l5,l6,()) (stpS p way t st (v,w,()) d).1.2.1).2.2.2.2.1,(addL (l1,l2,l3,l4,l5,l6,()) (stpS p way t st (v,w,()) d).1.2.1).2.2.2.2.2.1,max a (stpS p way t st (v,w,()) d).1.2.2.1,max b (stpS p way t st (v,w,()) d).1.2.2.2.1,0,0,0,(stpS p way t st (v,w,()) d).1.1.1,(stpS p way t st (v,w,()) d).1.1.2.1,0,0,0,0,0,0,0,0,0)):=by
 obtain ⟨hso,e0,_,h0⟩:=zb11 (stops:=stops) (st:=st) (p:=p) (way:=way) ht hS hx
 have hs:=hx.s
 have hm:=ht.m
 have hxw:10 * t.1 ≤ w ∧ w ≤ 1000000000000000:=hx.w
 have hc:=zl22 (stops:=stops) hp hw ht hst hx.p (show 0 ≤ ((v,w,()):MotionState).2.1 ∧ ((v,w,()):MotionState).2.1 ≤ 500000000000000000 from ⟨by show 0 ≤ w; omega,by show w ≤ _; omega⟩) stop
 have hnw:=(zw16 hp hw ht hst hS hx hd).1.w
 have hkb:((k:Int) == 36000) = false:=by simp; omega
 rw [hd] at hc
 unfold legF
 by_cases hv:v = 0
 ·subst hv
  have hin:inB (stop - placeS t (0,w,())) 0 1000 = false:=by
   cases h:inB (stop - placeS t (0,w,())) 0 1000 with
   | false=>rfl
   | true =>
    have:=zo3.1 h
    unfold arrB at ha
    rw [decide_eq_true (by omega)] at ha
    cases ha
  simp only [e0,Option.bind_some,show ((0:Int) == 0) = true from rfl,cond_true,mwithin,zh (n:=stop - placeS t (0,w,())) (by omega) (by omega),hin,cond_false,hkb,hc,Bool.not_true,decide_eq_false (show ¬ (stpS p way t st (0,w,()) d).1.1.2.1 > 10000000000000000 by omega),zl36,zc1 (show k < 9223372036854775807 by omega),zh (n:=tm + 100) (by omega) (by omega)]
 ·have hvb:(v == 0) = false:=by simpa using hv
  simp only [e0,Option.bind_some,hvb,cond_false,hkb,hc,Bool.not_true,decide_eq_false (show ¬ (stpS p way t st (v,w,()) d).1.1.2.1 > 10000000000000000 by omega),zl36,zc1 (show k < 9223372036854775807 by omega),zh (n:=tm + 100) (by omega) (by omega)]
end
theorem zm35:∀ (n k:Nat) (tm l1 l2 l3 l4 l5 l6 a b v w:Int),k + n = 36000 → tm = 100 * k → LgOk t stop (v,w,()) → ∃ T,Lp (legF (runS p way t st stops) stop) n ((k:Int),tm,0,l1,l2,l3,l4,l5,l6,a,b,0,0,0,v,w,0,0,0,0,0,0,0,0,0) T ∧ (match legN p way t st stop n tm (l1,l2,l3,l4,l5,l6,()) a b (v,w,()) with | some (g,y)=>legO T = some (g,y,true) | none=>∃ L X,legO T = some (L,X,false)):=by
 intro n
 induction n with
 | zero =>
  intro k tm l1 l2 l3 l4 l5 l6 a b v w hk htm hx
  unfold legN
  cases ha:arrB t stop (v,w,()) with
  | true =>
   obtain ⟨T,h1,h2⟩:=zo25 (stops:=stops) (k:=k) (tm:=tm) (l1:=l1) (l2:=l2) (l3:=l3) (l4:=l4) (l5:=l5) (l6:=l6) (a:=a) (b:=b) hp hw ht hst hS hx ha
   exact ⟨T,Lp.done h1,h2⟩
  | false =>
   obtain ⟨T,h1,h2⟩:=zp25 (stops:=stops) (k:=k) (tm:=tm) (l1:=l1) (l2:=l2) (l3:=l3) (l4:=l4) (l5:=l5) (l6:=l6) (a:=a) (b:=b) hp hw ht hst hS hx ha (.inl (by omega))
   exact ⟨T,Lp.done h1,h2⟩
 | succ n ih =>
  intro k tm l1 l2 l3 l4 l5 l6 a b v w hk htm hx
  unfold legN
  cases ha:arrB t stop (v,w,()) with
  | true =>
   obtain ⟨T,h1,h2⟩:=zo25 (stops:=stops) (k:=k) (tm:=tm) (l1:=l1) (l2:=l2) (l3:=l3) (l4:=l4) (l5:=l5) (l6:=l6) (a:=a) (b:=b) hp hw ht hst hS hx ha
   exact ⟨T,Lp.done h1,h2⟩
  | false =>
   cases hd:drvS p way t st stop (v,w,()) with
   | none =>
    obtain ⟨T,h1,h2⟩:=zp25 (stops:=stops) (k:=k) (tm:=tm) (l1:=l1) (l2:=l2) (l3:=l3) (l4:=l4) (l5:=l5) (l6:=l6) (a:=a) (b:=b) hp hw ht hst hS hx ha (.inr hd)
    exact ⟨T,Lp.done h1,h2⟩
   | some d =>
    have h1:=zj40 (stops:=stops) (k:=k) (tm:=tm) (l1:=l1) (l2:=l2) (l3:=l3) (l4:=l4) (l5:=l5) (l6:=l6) (a:=a) (b:=b) hp hw ht hst hS hx ha (by omega) (by omega) hd
    obtain ⟨T,h2,h3⟩:=ih (k + 1) (tm + 100) _ _ _ _ _ _ (max a (stpS p way t st (v,w,()) d).1.2.2.1) (max b (stpS p way t st (v,w,()) d).1.2.2.2.1) (stpS p way t st (v,w,()) d).1.1.1 (stpS p way t st (v,w,()) d).1.1.2.1 (by omega) (by omega) (zw16 hp hw ht hst hS hx hd).1
    exact ⟨T,Lp.step h1 h2,h3⟩
theorem zy42 (hx:LgOk t stop x):∃ L X,zf3 (runS p way t st stops) x stop = some (match legN p way t st stop 36000 0 (0,0,0,0,0,0,()) 0 0 x with | some (g,y)=>(g,y,true) | none=>(L,X,false)):=by
 obtain ⟨T,h1,h2⟩:=zm35 (stops:=stops) hp hw ht hst hS 36000 0 0 0 0 0 0 0 0 0 0 x.1 x.2.1 (by omega) (by omega) hx
 have hB:=h1.big (by simp only [big]; omega)
 have e:zf3 (runS p way t st stops) x stop = legO T:=(congrArg (fun o=>Option.bind o legO) hB)
 rw [e]
 have e2:((x.1,x.2.1,()):MotionState) = x:=rfl
 rw [e2] at h2
 cases hl:legN p way t st stop 36000 0 (0,0,0,0,0,0,()) 0 0 x with
 | some g=>rw [hl] at h2; exact ⟨default,default,h2⟩
 | none =>
  rw [hl] at h2
  obtain ⟨L,X,h2⟩:=h2
  exact ⟨L,X,h2⟩
end
end Go.Ai.Sx

/- Motion: the reference's leg. -/
namespace Go.Ai.Sx
def rlegF (p_0:Plan) (p_1:List AMove) (p_2:Train) (p_3:Int) (p_4:List Int) (i_281:Int) (x286:Int):((Int × Int × Int × Int × Int × Int × Int × Int × Int × Int × Int × Int)) → Option (((Int × Int × Int × Int × Int × Int × Int × Int × Int × Int × Int × Int)) ⊕ ((Train × MotionState × Int × (List Int) × Int × Int × Int × Int × Bool × Int × Int × Int × Int × Int × Int × Int × Int × Int × Int × Int) ⊕ ((List Leg) × Bool × Int × Int × Int × Int × Int × Int × Int × Int × Int × Int × Int))):=(fun s371 =>
cond ((decide (s371.2.2.2.2.2.2.2.2.2.2.1 > 0))) (cond ((s371.1 == 36000)) (some (.inr ((.inr (([],false,s371.2.1,s371.2.2.1,s371.2.2.2.1,s371.2.2.2.2.1,s371.2.2.2.2.2.1,s371.2.2.2.2.2.2.1,s371.2.2.2.2.2.2.2.1,s371.2.2.2.2.2.2.2.2.1,s371.2.2.2.2.2.2.2.2.2.1,s371.2.2.2.2.2.2.2.2.2.2.1,s371.2.2.2.2.2.2.2.2.2.2.2)))))) (cond ((decide (s371.2.2.2.2.2.2.2.2.2.2.2 > 10000000000000000))) (some (.inr ((.inr (([],false,s371.2.1,s371.2.2.1,s371.2.2.2.1,s371.2.2.2.2.1,s371.2.2.2.2.2.1,s371.2.2.2.2.2.2.1,s371.2.2.2.2.2.2.2.1,s371.2.2.2.2.2.2.2.2.1,s371.2.2.2.2.2.2.2.2.2.1,s371.2.2.2.2.2.2.2.2.2.2.1,s371.2.2.2.2.2.2.2.2.2.2.2)))))) (Option.bind (zt4 (((p_0,p_1,p_2,p_3,x286,()):zi1)) ((s371.2.2.2.2.2.2.2.2.2.2.1,s371.2.2.2.2.2.2.2.2.2.2.2,()))) fun y385 =>
cond ((!y385.2)) (some (.inr ((.inr (([],false,s371.2.1,s371.2.2.1,s371.2.2.2.1,s371.2.2.2.2.1,s371.2.2.2.2.2.1,s371.2.2.2.2.2.2.1,s371.2.2.2.2.2.2.2.1,s371.2.2.2.2.2.2.2.2.1,s371.2.2.2.2.2.2.2.2.2.1,s371.2.2.2.2.2.2.2.2.2.2.1,s371.2.2.2.2.2.2.2.2.2.2.2)))))) (Option.bind (zu p_2 ((s371.2.2.2.2.2.2.2.2.2.2.1,s371.2.2.2.2.2.2.2.2.2.2.2,()))) fun y389 =>
Option.bind (zw2 (((p_0,p_1,p_2,p_3,x286,()):zi1)) y389) fun y390 =>
Option.bind (zq3 p_2 ((s371.2.2.2.2.2.2.2.2.2.2.1,s371.2.2.2.2.2.2.2.2.2.2.2,())) y385.1 y390 p_3) fun y391 =>
Option.bind (zh2 p_2 ((s371.2.2.2.2.2.2.2.2.2.2.1,s371.2.2.2.2.2.2.2.2.2.2.2,())) y385.1 y390 p_3) fun y392 =>
Option.bind (zw6 ((s371.2.2.1,s371.2.2.2.1,s371.2.2.2.2.1,s371.2.2.2.2.2.1,s371.2.2.2.2.2.2.1,s371.2.2.2.2.2.2.2.1,())) y392.2.1) fun y395 =>
some (.inl (((w64 (s371.1 + 1)),(w64 (s371.2.1 + 100)),y395.1,y395.2.1,y395.2.2.1,y395.2.2.2.1,y395.2.2.2.2.1,y395.2.2.2.2.2.1,(max s371.2.2.2.2.2.2.2.2.1 y391.1),(max s371.2.2.2.2.2.2.2.2.2.1 y391.2),y392.1.1,y392.1.2.1))))))) (Option.bind (zu p_2 ((s371.2.2.2.2.2.2.2.2.2.2.1,s371.2.2.2.2.2.2.2.2.2.2.2,()))) fun y396 =>
Option.bind (idx p_4 i_281) fun x397 =>
cond ((decide (y396 < (w64 (x397 - 1000))))) (cond ((s371.1 == 36000)) (some (.inr ((.inr (([],false,s371.2.1,s371.2.2.1,s371.2.2.2.1,s371.2.2.2.2.1,s371.2.2.2.2.2.1,s371.2.2.2.2.2.2.1,s371.2.2.2.2.2.2.2.1,s371.2.2.2.2.2.2.2.2.1,s371.2.2.2.2.2.2.2.2.2.1,s371.2.2.2.2.2.2.2.2.2.2.1,s371.2.2.2.2.2.2.2.2.2.2.2)))))) (cond ((decide (s371.2.2.2.2.2.2.2.2.2.2.2 > 10000000000000000))) (some (.inr ((.inr (([],false,s371.2.1,s371.2.2.1,s371.2.2.2.1,s371.2.2.2.2.1,s371.2.2.2.2.2.1,s371.2.2.2.2.2.2.1,s371.2.2.2.2.2.2.2.1,s371.2.2.2.2.2.2.2.2.1,s371.2.2.2.2.2.2.2.2.2.1,s371.2.2.2.2.2.2.2.2.2.2.1,s371.2.2.2.2.2.2.2.2.2.2.2)))))) (Option.bind (zt4 (((p_0,p_1,p_2,p_3,x286,()):zi1)) ((s371.2.2.2.2.2.2.2.2.2.2.1,s371.2.2.2.2.2.2.2.2.2.2.2,()))) fun y403 =>
cond ((!y403.2)) (some (.inr ((.inr (([],false,s371.2.1,s371.2.2.1,s371.2.2.2.1,s371.2.2.2.2.1,s371.2.2.2.2.2.1,s371.2.2.2.2.2.2.1,s371.2.2.2.2.2.2.2.1,s371.2.2.2.2.2.2.2.2.1,s371.2.2.2.2.2.2.2.2.2.1,s371.2.2.2.2.2.2.2.2.2.2.1,s371.2.2.2.2.2.2.2.2.2.2.2)))))) (Option.bind (zu p_2 ((s371.2.2.2.2.2.2.2.2.2.2.1,s371.2.2.2.2.2.2.2.2.2.2.2,()))) fun y407 =>
Option.bind (zw2 (((p_0,p_1,p_2,p_3,x286,()):zi1)) y407) fun y408 =>
Option.bind (zq3 p_2 ((s371.2.2.2.2.2.2.2.2.2.2.1,s371.2.2.2.2.2.2.2.2.2.2.2,())) y403.1 y408 p_3) fun y409 =>
Option.bind (zh2 p_2 ((s371.2.2.2.2.2.2.2.2.2.2.1,s371.2.2.2.2.2.2.2.2.2.2.2,())) y403.1 y408 p_3) fun y410 =>
Option.bind (zw6 ((s371.2.2.1,s371.2.2.2.1,s371.2.2.2.2.1,s371.2.2.2.2.2.1,s371.2.2.2.2.2.2.1,s371.2.2.2.2.2.2.2.1,())) y410.2.1) fun y413 =>
some (.inl (((w64 (s371.1 + 1)),(w64 (s371.2.1 + 100)),y413.1,y413.2.1,y413.2.2.1,y413.2.2.2.1,y413.2.2.2.2.1,y413.2.2.2.2.2.1,(max s371.2.2.2.2.2.2.2.2.1 y409.1),(max s371.2.2.2.2.2.2.2.2.2.1 y409.2),y410.1.1,y410.1.2.1))))))) (some (.inr ((.inl ((p_2,(s371.2.2.2.2.2.2.2.2.2.2.1,s371.2.2.2.2.2.2.2.2.2.2.2,()),y396,p_4,i_281,x397,x397,(w64 (x397 - 1000)),(decide (y396 < (w64 (x397 - 1000)))),s371.2.1,s371.2.2.1,s371.2.2.2.1,s371.2.2.2.2.1,s371.2.2.2.2.2.1,s371.2.2.2.2.2.2.1,s371.2.2.2.2.2.2.2.1,s371.2.2.2.2.2.2.2.2.1,s371.2.2.2.2.2.2.2.2.2.1,s371.2.2.2.2.2.2.2.2.2.2.1,s371.2.2.2.2.2.2.2.2.2.2.2))))))))
def rlegK (p_2:Train) (a_281:List Leg) (i_281:Int):((Train × MotionState × Int × (List Int) × Int × Int × Int × Int × Bool × Int × Int × Int × Int × Int × Int × Int × Int × Int × Int × Int) ⊕ ((List Leg) × Bool × Int × Int × Int × Int × Int × Int × Int × Int × Int × Int × Int)) → Option (((List Leg) × Int × Int × Int) ⊕ (((List Leg) × Int × Int) ⊕ ((List Leg) × Bool))):=fun t414 =>
alt (fun b416=>Option.bind (zu p_2 ((b416.2.2.2.2.2.2.2.2.2.2.2.2.2.2.2.2.2.2.1,b416.2.2.2.2.2.2.2.2.2.2.2.2.2.2.2.2.2.2.2,()))) fun y418 =>
Option.bind (appO 80 a_281 ([(b416.2.2.2.2.2.2.2.2.2.1,y418,(b416.2.2.2.2.2.2.2.2.2.2.1,b416.2.2.2.2.2.2.2.2.2.2.2.1,b416.2.2.2.2.2.2.2.2.2.2.2.2.1,b416.2.2.2.2.2.2.2.2.2.2.2.2.2.1,b416.2.2.2.2.2.2.2.2.2.2.2.2.2.2.1,b416.2.2.2.2.2.2.2.2.2.2.2.2.2.2.2.1,()),b416.2.2.2.2.2.2.2.2.2.2.2.2.2.2.2.2.1,b416.2.2.2.2.2.2.2.2.2.2.2.2.2.2.2.2.2.1,())])) fun x419 =>
some (.inl ((x419,(w64 (i_281 + 1)),b416.2.2.2.2.2.2.2.2.2.2.2.2.2.2.2.2.2.2.1,b416.2.2.2.2.2.2.2.2.2.2.2.2.2.2.2.2.2.2.2)))) (fun b417=>some (.inr ((.inr ((b417.1,b417.2.1)))))) t414
section
variable {p:Plan} {way:List AMove} {t:Train} {st:Int} {stops:List Int} {x:MotionState} (hp:PlOk p) (hw:WayOk p way) (ht:TrOk t) (hst:0 ≤ st ∧ st < t.2.2.2.2.2.2.2.2.2.1.length) {stop:Int} (hS:stop ≤ 1000000000) {i:Int} (hi:idx stops i = some stop) (hi0:0 ≤ i ∧ i ≤ 1000000) (hs0:0 ≤ stop)
include hp hw ht hst hS hi hi0 hs0
section
variable {k:Nat} {tm l1 l2 l3 l4 l5 l6 a b v w:Int} (hx:LgOk t stop (v,w,()))
include hx
theorem zn22 (ha:arrB t stop (v,w,()) = true):∃ T,rlegF p way t st stops i stop ((k:Int),tm,l1,l2,l3,l4,l5,l6,a,b,v,w) = some (.inr T) ∧ ∀ acc:List Leg,acc.length ≤ 1000000 → rlegK t acc i T = some (.inl (acc ++ [(tm,placeS t (v,w,()),(l1,l2,l3,l4,l5,l6,()),a,b,())],w64 (i + 1),v,w)):=by
 obtain ⟨_,_,e0,h0⟩:=zb11 (stops:=stops) (st:=st) (p:=p) (way:=way) ht hS hx
 have hs:=hx.s
 unfold arrB at ha
 rw [Bool.and_eq_true,beq_iff_eq,decide_eq_true_eq] at ha
 obtain ⟨ha1,ha2⟩:=ha
 have ha1:v = 0:=ha1
 subst ha1
 unfold rlegF
 simp only [e0,Option.bind_some,decide_eq_false (show ¬ (0:Int) > 0 by omega),cond_false,hi,zh (n:=stop - 1000) (by omega) (by omega),decide_eq_false (show ¬ placeS t (0,w,()) < stop - 1000 by omega)]
 refine ⟨_,rfl,fun acc hacc=>?_⟩
 unfold rlegK
 simp only [zz3,e0,Option.bind_some]
 rw [zf5 (by simp; omega),Option.bind_some]
theorem zo22 (ha:arrB t stop (v,w,()) = false) (hk:k = 36000 ∨ drvS p way t st stop (v,w,()) = none):∃ T,rlegF p way t st stops i stop ((k:Int),tm,l1,l2,l3,l4,l5,l6,a,b,v,w) = some (.inr T) ∧ ∀ acc:List Leg,rlegK t acc i T = some (.inr (.inr ([],false))):=by
 obtain ⟨hso,_,e0,h0⟩:=zb11 (stops:=stops) (st:=st) (p:=p) (way:=way) ht hS hx
 have hs:=hx.s
 have hm:=ht.m
 have hxw:10 * t.1 ≤ w ∧ w ≤ 1000000000000000:=hx.w
 have hxp:0 ≤ v ∧ v ≤ 25000 * t.1:=hx.p
 have hc:=zm22 hp hw ht hst hx.p (show 10 * t.1 ≤ ((v,w,()):MotionState).2.1 ∧ ((v,w,()):MotionState).2.1 ≤ 500000000000000000 from ⟨by show _ ≤ w; omega,by show w ≤ _; omega⟩) stop
 unfold rlegF
 by_cases hv:v = 0
 ·subst hv
  have hlt:placeS t (0,w,()) < stop - 1000:=by
   unfold arrB at ha
   rw [show (((0,w,()):MotionState).1 == 0) = true from rfl,Bool.true_and,decide_eq_false_iff_not] at ha
   omega
  simp only [e0,Option.bind_some,decide_eq_false (show ¬ (0:Int) > 0 by omega),cond_false,hi,zh (n:=stop - 1000) (by omega) (by omega),decide_eq_true hlt,cond_true]
  by_cases hk0:k = 36000
  ·subst hk0
   exact ⟨_,rfl,fun acc=>rfl⟩
  ·have hkb:((k:Int) == 36000) = false:=by simp; omega
   have hd:=hk.resolve_left hk0
   rw [hd] at hc
   simp only [hkb,cond_false,decide_eq_false (show ¬ w > 10000000000000000 by omega),hc,Option.bind_some,Bool.not_false,cond_true]
   exact ⟨_,rfl,fun acc=>rfl⟩
 ·simp only [decide_eq_true (show v > 0 by omega),cond_true]
  by_cases hk0:k = 36000
  ·subst hk0
   exact ⟨_,rfl,fun acc=>rfl⟩
  ·have hkb:((k:Int) == 36000) = false:=by simp; omega
   have hd:=hk.resolve_left hk0
   rw [hd] at hc
   simp only [hkb,cond_false,decide_eq_false (show ¬ w > 10000000000000000 by omega),hc,Option.bind_some,Bool.not_false,cond_true]
   exact ⟨_,rfl,fun acc=>rfl⟩
theorem zn35 (ha:arrB t stop (v,w,()) = false) (hk:k < 36000) (htm:0 ≤ tm ∧ tm ≤ 3600000) {d:Int} (hd:drvS p way t st stop (v,w,()) = some d):rlegF p way t st stops i stop ((k:Int),tm,l1,l2,l3,l4,l5,l6,a,b,v,w) = some (.inl (((k + 1:Nat):Int),tm + 100,(addL (l1,l2,l3,l4,l5,l6,()) (stpS p way t st (v,w,()) d).1.2.1).1,(addL (l1,l2,l3,l4,l5,l6,()) (stpS p way t st (v,w,()) d).1.2.1).2.1,(addL (l1,l2,l3,l4,l5,l6,()) (stpS p way t st (v,w,()) d).1.2.1).2.2.1,(addL (l1,l2,l3,l4,l5,l6,()) (stpS p way t st (v,w,()) d).1.2.1).2.2.2.1,(addL (l1,l2,l3,l4,l5,l6,()) (stpS p way t st (v,w,()) d).1.2.1).2.2.2.2.1,(addL (l1,l2,l3,l4,l5,l6,()) (stpS p way t st (v,w,()) d).1.2.1).2.2.2.2.2.1,max a (stpS p way t st (v,w,()) d).1.2.2.1,max b (stpS p way t st (v,w,()) d).1.2.2.2.1,(stpS p way t st (v,w,()) d).1.1.1,(stpS p way t st (v,w,()) d).1.1.2.1)):=by
 obtain ⟨hso,_,e0,h0⟩:=zb11 (stops:=stops) (st:=st) (p:=p) (way:=way) ht hS hx
 have hs:=hx.s
 have hm:=ht.m
 have hxw:10 * t.1 ≤ w ∧ w ≤ 1000000000000000:=hx.w
 have hxp:0 ≤ v ∧ v ≤ 25000 * t.1:=hx.p
 have hc:=zm22 hp hw ht hst hx.p (show 10 * t.1 ≤ ((v,w,()):MotionState).2.1 ∧ ((v,w,()):MotionState).2.1 ≤ 500000000000000000 from ⟨by show _ ≤ w; omega,by show w ≤ _; omega⟩) stop
 have hkb:((k:Int) == 36000) = false:=by simp; omega
 rw [hd] at hc
 obtain ⟨_,q2,q3⟩:=zv16 hd
 have hfin:Fin3 t st d (slopeS p way (placeS t (v,w,()))):=⟨hst,by omega,zz10 hp hw ht hso _⟩
 have hsl:=zm9 (st:=st) (stop:=stop) hp hw ht (show 0 ≤ placeS t (v,w,()) ∧ placeS t (v,w,()) ≤ 4000000000000000000 by omega)
 have hpw:zq3 t (v,w,()) d (slopeS p way (placeS t (v,w,()))) st = some ((stpS p way t st (v,w,()) d).1.2.2.1,(stpS p way t st (v,w,()) d).1.2.2.2.1):=zs42 ht hfin hso
 have hsp:zh2 t (v,w,()) d (slopeS p way (placeS t (v,w,()))) st = some ((stpS p way t st (v,w,()) d).1.1,(stpS p way t st (v,w,()) d).1.2.1,(stpS p way t st (v,w,()) d).2):=zt19 ht hfin hso
 have hsm:∀ l m:MotionLedger,zw6 l m = some (addL l m):=fun l m=>rfl
 unfold rlegF
 by_cases hv:v = 0
 ·subst hv
  have hlt:placeS t (0,w,()) < stop - 1000:=by
   unfold arrB at ha
   rw [show (((0,w,()):MotionState).1 == 0) = true from rfl,Bool.true_and,decide_eq_false_iff_not] at ha
   omega
  simp only [e0,Option.bind_some,decide_eq_false (show ¬ (0:Int) > 0 by omega),cond_false,hi,zh (n:=stop - 1000) (by omega) (by omega),decide_eq_true hlt,cond_true,hkb,decide_eq_false (show ¬ w > 10000000000000000 by omega),hc,Bool.not_true,hsl,hpw,hsp,hsm,zc1 (show k < 9223372036854775807 by omega),zh (n:=tm + 100) (by omega) (by omega)]
 ·simp only [e0,Option.bind_some,decide_eq_true (show v > 0 by omega),cond_true,cond_false,hkb,decide_eq_false (show ¬ w > 10000000000000000 by omega),hc,Bool.not_true,hsl,hpw,hsp,hsm,zc1 (show k < 9223372036854775807 by omega),zh (n:=tm + 100) (by omega) (by omega)]
end
theorem zz31:∀ (n k:Nat) (tm l1 l2 l3 l4 l5 l6 a b v w:Int),k + n = 36000 → tm = 100 * k → LgOk t stop (v,w,()) → ∃ T,Lp (rlegF p way t st stops i stop) n ((k:Int),tm,l1,l2,l3,l4,l5,l6,a,b,v,w) T ∧ ∀ acc:List Leg,acc.length ≤ 1000000 → rlegK t acc i T = some (match legN p way t st stop n tm (l1,l2,l3,l4,l5,l6,()) a b (v,w,()) with | some (g,y)=>.inl (acc ++ [g],w64 (i + 1),y.1,y.2.1) | none=>.inr (.inr ([],false))):=by
 intro n
 induction n with
 | zero =>
  intro k tm l1 l2 l3 l4 l5 l6 a b v w hk htm hx
  unfold legN
  cases ha:arrB t stop (v,w,()) with
  | true =>
   obtain ⟨T,h1,h2⟩:=zn22 (k:=k) (tm:=tm) (l1:=l1) (l2:=l2) (l3:=l3) (l4:=l4) (l5:=l5) (l6:=l6) (a:=a) (b:=b) hp hw ht hst hS hi hi0 hs0 hx ha
   exact ⟨T,Lp.done h1,h2⟩
  | false =>
   obtain ⟨T,h1,h2⟩:=zo22 (k:=k) (tm:=tm) (l1:=l1) (l2:=l2) (l3:=l3) (l4:=l4) (l5:=l5) (l6:=l6) (a:=a) (b:=b) hp hw ht hst hS hi hi0 hs0 hx ha (.inl (by omega))
   exact ⟨T,Lp.done h1,fun acc _=>h2 acc⟩
 | succ n ih =>
  intro k tm l1 l2 l3 l4 l5 l6 a b v w hk htm hx
  unfold legN
  cases ha:arrB t stop (v,w,()) with
  | true =>
   obtain ⟨T,h1,h2⟩:=zn22 (k:=k) (tm:=tm) (l1:=l1) (l2:=l2) (l3:=l3) (l4:=l4) (l5:=l5) (l6:=l6) (a:=a) (b:=b) hp hw ht hst hS hi hi0 hs0 hx ha
   exact ⟨T,Lp.done h1,h2⟩
  | false =>
   cases hd:drvS p way t st stop (v,w,()) with
   | none =>
    obtain ⟨T,h1,h2⟩:=zo22 (k:=k) (tm:=tm) (l1:=l1) (l2:=l2) (l3:=l3) (l4:=l4) (l5:=l5) (l6:=l6) (a:=a) (b:=b) hp hw ht hst hS hi hi0 hs0 hx ha (.inr hd)
    exact ⟨T,Lp.done h1,fun acc _=>h2 acc⟩
   | some d =>
    have h1:=zn35 (k:=k) (tm:=tm) (l1:=l1) (l2:=l2) (l3:=l3) (l4:=l4) (l5:=l5) (l6:=l6) (a:=a) (b:=b) hp hw ht hst hS hi hi0 hs0 hx ha (by omega) (by omega) hd
    obtain ⟨T,h2,h3⟩:=ih (k + 1) (tm + 100) _ _ _ _ _ _ (max a (stpS p way t st (v,w,()) d).1.2.2.1) (max b (stpS p way t st (v,w,()) d).1.2.2.2.1) (stpS p way t st (v,w,()) d).1.1.1 (stpS p way t st (v,w,()) d).1.1.2.1 (by omega) (by omega) (zw16 hp hw ht hst hS hx hd).1
    exact ⟨T,Lp.step h1 h2,h3⟩
theorem zk40 (hx:LgOk t stop x) (acc:List Leg) (hacc:acc.length ≤ 1000000):Option.bind (iter (rlegF p way t st stops i stop) big ((0,0,0,0,0,0,0,0,0,0,x.1,x.2.1))) (rlegK t acc i) = some (match legN p way t st stop 36000 0 (0,0,0,0,0,0,()) 0 0 x with | some (g,y)=>.inl (acc ++ [g],w64 (i + 1),y.1,y.2.1) | none=>.inr (.inr ([],false))):=by
 obtain ⟨T,h1,h2⟩:=zz31 hp hw ht hst hS hi hi0 hs0 36000 0 0 0 0 0 0 0 0 0 0 x.1 x.2.1 (by omega) (by omega) hx
 have hB:=h1.big (by simp only [big]; omega)
 rw [show ((0:Nat):Int) = 0 from rfl] at hB
 rw [hB,Option.bind_some]
 exact h2 acc hacc
end
end Go.Ai.Sx

/- Motion: a run begins. -/
namespace Go.Ai.Sx
def stp0 (stops:List Int) (k:Nat):Int:=stops.getD k 0
def risB (stops:List Int):Bool:=(List.range (stops.length - 1)).all fun k=>!decide (stp0 stops (k + 1) ≤ stp0 stops k)
def stopsB (p:Plan) (way:List AMove) (t:Train) (st:Int) (stops:List Int):Bool :=
 validB p && (wayB p way && (trB t && (inB st 0 (t.2.2.2.2.2.2.2.2.2.1.length - 1) && (inB (lenI stops) 2 100 && (!decide (stp0 stops 0 < t.2.1) && (risB stops && decide (stp0 stops (stops.length - 1) ≤ wlS p way)))))))
theorem zq25 {stops:List Int} (hl:2 ≤ stops.length ∧ stops.length ≤ 100) {τ:Type} (r0 r1:τ) {F:Int → Option (Int ⊕ τ)}
    (hF:∀ s,F s = cond ((decide (s < (lenI stops)))) (Option.bind (idx stops s) fun x37 =>
Option.bind (idx stops ((w64 (s - 1)))) fun x38 =>
cond ((decide (x37 ≤ x38))) (some (.inr r0)) (some (.inl ((w64 (s + 1)))))) (some (.inr r1))):iter F big 1 = some (if risB stops then r1 else r0):=by
  refine zp12 (fun k=>((k + 1:Nat):Int)) (stops.length - 1) (fun k=>!decide (stp0 stops (k + 1) ≤ stp0 stops k)) r0 r1 rfl (by simp only [big]; omega) (fun k hk=>?_) ?_
  · rw [hF,zr1 (show k + 1 < stops.length by omega),cond_true,zf1 0 (by omega),Option.bind_some,show w64 (((k + 1:Nat):Int) - 1) = (k:Int) by rw [zh (by omega) (by omega)]; omega,zf1 0 (by omega),Option.bind_some,zc1 (by omega)]
    show cond (decide (stp0 stops (k + 1) ≤ stp0 stops k)) _ _ = _
    cases decide (stp0 stops (k + 1) ≤ stp0 stops k) <;> rfl
  · rw [hF,show stops.length - 1 + 1 = stops.length by omega,zb2]; rfl
theorem zo35 {A:Type} (n:Nat) (f:Nat → A):rlN (n + 1) f = rlN n f ++ [f n]:=by
 unfold rlN
 rw [List.range_succ,List.map_append]; rfl
theorem za32 {stops:List Int} (hl:2 ≤ stops.length ∧ stops.length ≤ 100):idx stops (w64 (lenI stops - 1)) = some (stp0 stops (stops.length - 1)):=by
 rw [zo1,show w64 ((stops.length:Int) - 1) = ((stops.length - 1:Nat):Int) by rw [zh (by omega) (by omega)]; omega]
 exact zf1 0 (by omega)
theorem zp35 {p:Plan} {way:List AMove} {t:Train} (hv:validB p = true) (hp:PlOk p) (hw:WayOk p way):iter (σ:=(Int × Int × (List Int) × (List Int) × (List Int))) (τ:=((List Int) × (List Int) × (List Int)) ⊕ ((Option zz1) × Bool × (List Int) × (List Int) × (List Int))) (fun s110 =>
cond ((decide (s110.2.1 < (lenI way)))) (Option.bind (idx way s110.2.1) fun x113 =>
Option.bind (zc4 p x113.1) fun y115 =>
cond ((y115.2 != 0)) (some (.inr ((.inr (((none:Option zz1),false,s110.2.2.2.2,s110.2.2.2.1,s110.2.2.1)))))) (Option.bind (idx p.2.1 x113.1) fun x117 =>
cond (x113.2.1) (Option.bind (appO 8 s110.2.2.2.2 ([(w64 (s110.1 + y115.1))])) fun x126 =>
Option.bind (appO 8 s110.2.2.2.1 ([x117.2.2.2.1])) fun x128 =>
Option.bind (appO 8 s110.2.2.1 ([(w64 (0 - x117.2.2.2.2.1))])) fun x130 =>
some (.inl (((w64 (s110.1 + y115.1)),(w64 (s110.2.1 + 1)),x130,x128,x126)))) (Option.bind (appO 8 s110.2.2.2.2 ([(w64 (s110.1 + y115.1))])) fun x138 =>
Option.bind (appO 8 s110.2.2.2.1 ([x117.2.2.2.1])) fun x140 =>
Option.bind (appO 8 s110.2.2.1 ([x117.2.2.2.2.1])) fun x142 =>
some (.inl (((w64 (s110.1 + y115.1)),(w64 (s110.2.1 + 1)),x142,x140,x138)))))) (some (.inr ((.inl ((s110.2.2.2.2,s110.2.2.2.1,s110.2.2.1))))))) big ((0,0,[],[],[])) = some (.inl (endsL p way,limsL p way,slpsL p way)):=by
  have hn:=hw.n
  have key:∀ (k i:Nat),i + k = way.length → Lp (σ:=(Int × Int × (List Int) × (List Int) × (List Int))) (τ:=((List Int) × (List Int) × (List Int)) ⊕ ((Option zz1) × Bool × (List Int) × (List Int) × (List Int))) (fun s110 =>
cond ((decide (s110.2.1 < (lenI way)))) (Option.bind (idx way s110.2.1) fun x113 =>
Option.bind (zc4 p x113.1) fun y115 =>
cond ((y115.2 != 0)) (some (.inr ((.inr (((none:Option zz1),false,s110.2.2.2.2,s110.2.2.2.1,s110.2.2.1)))))) (Option.bind (idx p.2.1 x113.1) fun x117 =>
cond (x113.2.1) (Option.bind (appO 8 s110.2.2.2.2 ([(w64 (s110.1 + y115.1))])) fun x126 =>
Option.bind (appO 8 s110.2.2.2.1 ([x117.2.2.2.1])) fun x128 =>
Option.bind (appO 8 s110.2.2.1 ([(w64 (0 - x117.2.2.2.2.1))])) fun x130 =>
some (.inl (((w64 (s110.1 + y115.1)),(w64 (s110.2.1 + 1)),x130,x128,x126)))) (Option.bind (appO 8 s110.2.2.2.2 ([(w64 (s110.1 + y115.1))])) fun x138 =>
Option.bind (appO 8 s110.2.2.2.1 ([x117.2.2.2.1])) fun x140 =>
Option.bind (appO 8 s110.2.2.1 ([x117.2.2.2.2.1])) fun x142 =>
some (.inl (((w64 (s110.1 + y115.1)),(w64 (s110.2.1 + 1)),x142,x140,x138)))))) (some (.inr ((.inl ((s110.2.2.2.2,s110.2.2.2.1,s110.2.2.1))))))) k (endAt p way i,(i:Int),rlN i (slpAt p way),rlN i (limAt p way),rlN i (fun j=>endAt p way (j + 1))) (.inl (endsL p way,limsL p way,slpsL p way)):=by
    intro k
    induction k with
    | zero =>
      intro i hi
      have:i = way.length:=by omega
      subst this
      refine Lp.done ?_
      simp only [zb2,cond_false]
      rfl
    | succ k ih =>
      intro i hi
      have hil:i < way.length:=by omega
      have hb:=zy10 hp hw (i:=i) (by omega)
      have hb1:=zy10 hp hw (i:=i + 1) (by omega)
      have hsx:=zx10 p way i
      have hml:mvl p way i = lenP p (way.getD i M0).1:=rfl
      have hwe:w64 (endAt p way i + lenP p (way.getD i M0).1) = endAt p way (i + 1):=by
        rw [← hml,← hsx,zh (by omega) (by omega)]
      obtain ⟨_,hs,hr⟩:=zq11 hp hw hil
      have hh:hasB p ((way.getD i M0).1,false,()) = true:=zs14.2 (hw.m i hil)
      have hlen:zc4 p (way.getD i M0).1 = some (lenP p (way.getD i M0).1,0):=by
        rw [zs31,hv,hh]; rfl
      refine Lp.step ?_ (ih (i + 1) (by omega))
      have a1:∀ (f:Nat → Int) (v:Int),v = f i → appO 8 (rlN i f) [v] = some (rlN (i + 1) f):=fun f v hvf=>by
        rw [zf5 (by simp only [zr13,List.length_singleton]; omega),zo35,hvf]
      have z0:((0:Int) != 0) = false:=rfl
      simp only [zr1 hil,cond_true,zf1 M0 hil,Option.bind_some,hlen,z0,cond_false,hr,hwe,zc1 (show i < 9223372036854775807 by omega)]
      have a2:=a1 (fun j=>endAt p way (j + 1)) (endAt p way (i + 1)) rfl
      have a3:=a1 (limAt p way) (railAt p way i).2.2.2.1 rfl
      simp only [a2,a3,Option.bind_some]
      unfold slpAt at hs
      cases hrv:(way.getD i M0).2.1 with
      | true =>
        rw [hrv] at hs
        simp only [if_true] at hs
        have e:w64 (0 - (railAt p way i).2.2.2.2.1) = slpAt p way i:=by
          unfold slpAt
          rw [hrv,zh (by omega) (by omega),Int.zero_sub]; rfl
        simp only [a1 (slpAt p way) _ e,Option.bind_some,cond_true,cond_false]
      | false =>
        have e:(railAt p way i).2.2.2.2.1 = slpAt p way i:=by
          unfold slpAt
          rw [hrv]; rfl
        simp only [a1 (slpAt p way) _ e,Option.bind_some,cond_true,cond_false]
  have hL:=(key way.length 0 (by omega)).big (by simp only [big]; omega)
  exact hL
theorem zr25 (p:Plan) (way:List AMove) (t:Train) (st:Int) (stops:List Int) (hwl:way.length ≤ 9223372036854775807) (hsl:stops.length ≤ 9223372036854775807):zn6 p way t st stops = some (if stopsB p way t st stops then (some (runS p way t st stops),true) else (none,false)):=by
 unfold zn6 stopsB
 rw [zy21,Option.bind_some,ze14 p hwl,Option.bind_some]
 cases hv:validB p with
 | false =>
  simp only [Bool.false_and,Bool.false_eq_true,if_false]
  cases (trB t && inB st 0 (t.2.2.2.2.2.2.2.2.2.1.length - 1)) <;> rfl
 | true =>
 cases hwy:wayB p way with
 | false =>
  simp only [Bool.true_and,Bool.false_and,Bool.and_false,Bool.false_eq_true,if_false]
  cases (trB t && inB st 0 (t.2.2.2.2.2.2.2.2.2.1.length - 1)) <;> rfl
 | true =>
 cases htr:trB t with
 | false=>rfl
 | true =>
 cases hin:inB st 0 (t.2.2.2.2.2.2.2.2.2.1.length - 1) with
 | false=>rfl
 | true =>
 have hp:=zw10 hv
 have hw:=zb20 hwy
 simp only [Bool.true_and,if_true,Bool.not_true,cond_false,show ((0:Int) != 0) = false from rfl,mwithin,Option.bind_some]
 cases hln:inB (lenI stops) 2 100 with
 | false=>rfl
 | true =>
 have hl:=zo3.1 hln
 rw [zo1] at hl
 have hl:2 ≤ stops.length ∧ stops.length ≤ 100:=by omega
 have h0:idx stops 0 = some (stp0 stops 0):=zf1 (i:=0) 0 (by omega)
 simp only [Bool.not_true,cond_false,h0,Option.bind_some,za32 hl,Bool.true_and]
 cases decide (stp0 stops 0 < t.2.1) with
 | true=>rfl
 | false =>
 simp only [cond_false,Option.bind_some,Bool.not_false,Bool.true_and]
 by_cases hgt:stp0 stops (stops.length - 1) > wlS p way
 ·rw [decide_eq_true hgt,decide_eq_false (show ¬ stp0 stops (stops.length - 1) ≤ wlS p way by omega),Bool.and_false]; rfl
 ·rw [decide_eq_false hgt,decide_eq_true (show stp0 stops (stops.length - 1) ≤ wlS p way by omega),Bool.and_true,cond_false]
  rw [zq25 (τ:=Unit ⊕ ((Option zz1) × Bool)) hl (.inr (none,false)) (.inl ()) (fun s=>rfl),Option.bind_some]
  cases risB stops with
  | false=>rfl
  | true =>
   simp only [if_true,zz3,Option.bind_some]
   have hB:=zp35 (t:=t) hv hp hw
   exact congrArg (fun o=>Option.bind o fun t144:((List Int) × (List Int) × (List Int)) ⊕ ((Option zz1) × Bool × (List Int) × (List Int) × (List Int))=>alt (fun b146=>some (((some (((t,st,()),way,b146.1,b146.2.1,b146.2.2,stops,()))),true))) (fun b147=>some ((b147.1,b147.2.1))) t144) hB
theorem zp22 (p:Plan) (way:List AMove) (t:Train) (st:Int) (stops:List Int) (hwl:way.length ≤ 9223372036854775807) (hsl:stops.length ≤ 9223372036854775807):zr4 p way t st stops = some (stopsB p way t st stops):=by
 unfold zr4 stopsB
 rw [zh31,Option.bind_some]
 cases hv:validB p with
 | false=>rfl
 | true =>
 have hp:=zw10 hv
 rw [zf40 hp hwl,Option.bind_some]
 cases hwy:wayB p way with
 | false=>rfl
 | true =>
 have hw:=zb20 hwy
 rw [zz24,Option.bind_some]
 cases htr:trB t with
 | false=>rfl
 | true =>
 have ht:=zj16.1 htr
 simp only [Bool.not_true,cond_false,Option.bind_some,rin,wlen ht,Bool.true_and]
 cases hin:inB st 0 (t.2.2.2.2.2.2.2.2.2.1.length - 1) with
 | false=>rfl
 | true =>
 simp only [Bool.not_true,cond_false,Option.bind_some,Bool.true_and]
 cases hln:inB (lenI stops) 2 100 with
 | false=>rfl
 | true =>
 have hl:=zo3.1 hln
 rw [zo1] at hl
 have hl:2 ≤ stops.length ∧ stops.length ≤ 100:=by omega
 have h0:idx stops 0 = some (stp0 stops 0):=zf1 (i:=0) 0 (by omega)
 simp only [Bool.not_true,cond_false,h0,Option.bind_some,za32 hl,Bool.true_and]
 cases decide (stp0 stops 0 < t.2.1) with
 | true=>rfl
 | false =>
 simp only [cond_false,Option.bind_some,Bool.not_false,Bool.true_and]
 rw [zq25 (τ:=Unit ⊕ Bool) hl (.inr false) (.inl ()) (fun s=>rfl),Option.bind_some]
 cases risB stops with
 | false=>rfl
 | true =>
  simp only [if_true,zz3,Option.bind_some,zj36 hp hw,Bool.true_and]
end Go.Ai.Sx

/- Motion: all legs. -/
namespace Go.Ai.Sx
def drvFo (p_2:Train) (y1:Option zz1) (x7:List Int):((List Leg) × Int × Int × Int) → Option (((List Leg) × Int × Int × Int) ⊕ (((List Leg) × Int × Int) ⊕ ((List Leg) × Int × Int × Int))):=(fun s32 =>
cond ((decide (s32.2.1 < (lenI x7)))) (Option.bind (idx x7 s32.2.1) fun x35 =>
Option.bind (y1) fun p36 =>
Option.bind (zf3 p36 ((s32.2.2.1,s32.2.2.2,())) x35) fun y37 =>
cond ((!y37.2.2)) (some (.inr ((.inr (([],4,s32.2.2.1,s32.2.2.2)))))) (cond ((decide (s32.2.2.2 > 10000000000000000))) (some (.inr ((.inr (([],4,s32.2.2.1,s32.2.2.2)))))) (Option.bind (appO 80 s32.1 ([y37.1])) fun x44 =>
some (.inl ((x44,(w64 (s32.2.1 + 1)),y37.2.1.1,y37.2.1.2.1)))))) (some (.inr ((.inl ((s32.1,s32.2.2.1,s32.2.2.2)))))))
def rdrvFo (p_0:Plan) (p_1:List AMove) (p_2:Train) (p_3:Int) (p_4:List Int):((List Leg) × Int × Int × Int) → Option (((List Leg) × Int × Int × Int) ⊕ (((List Leg) × Int × Int) ⊕ ((List Leg) × Bool))):=fun s281 =>
cond ((decide (s281.2.1 < (lenI p_4)))) (Option.bind (idx p_4 s281.2.1) fun x286 =>
Option.bind (iter (rlegF p_0 p_1 p_2 p_3 p_4 s281.2.1 x286) big ((0,0,0,0,0,0,0,0,0,0,s281.2.2.1,s281.2.2.2))) (rlegK p_2 s281.1 s281.2.1)) (some (.inr ((.inl ((s281.1,s281.2.2.1,s281.2.2.2))))))
section
variable (p:Plan) (way:List AMove) (t:Train) (st:Int)
def drvL:List Int → MotionState → Option (List Leg × MotionState)
 | [],x=>some ([],x)
 | s :: r,x=>match legN p way t st s 36000 0 (0,0,0,0,0,0,()) 0 0 x with
  | none=>none
  | some (g,y)=>match drvL r y with
   | none=>none
   | some (gs,z)=>some (g :: gs,z)
end
structure RunOk (p:Plan) (way:List AMove) (t:Train) (st:Int) (stops:List Int):Prop where
 hp:PlOk p
 hw:WayOk p way
 ht:TrOk t
 hst:0 ≤ st ∧ st < t.2.2.2.2.2.2.2.2.2.1.length
 hn:2 ≤ stops.length ∧ stops.length ≤ 100
 h0:t.2.1 ≤ stp0 stops 0
 up:∀ k,k + 1 < stops.length → stp0 stops k < stp0 stops (k + 1)
 la:stp0 stops (stops.length - 1) ≤ wlS p way
 b:wlS p way ≤ 248000000
theorem zx16 {p:Plan} {way:List AMove} {t:Train} {st:Int} {stops:List Int} (h:stopsB p way t st stops = true) (hl:way.length ≤ 8):RunOk p way t st stops:=by
 unfold stopsB at h
 simp only [Bool.and_eq_true] at h
 obtain ⟨h1,h2,h3,h4,h5,h6,h7,h8⟩:=h
 have hp:=zw10 h1
 have hw:=zb20 h2
 have hb:=wl_bd hp hw
 have h4:=zo3.1 h4
 have h5:=zo3.1 h5
 rw [zo1] at h5
 refine ⟨hp,hw,zj16.1 h3,by omega,by omega, ?_,fun k hk=>?_,of_decide_eq_true h8,by omega⟩
 ·rw [Bool.not_eq_true',decide_eq_false_iff_not] at h6; omega
 ·unfold risB at h7
  have:=List.all_eq_true.1 h7 k (List.mem_range.2 (by omega))
  rw [Bool.not_eq_true',decide_eq_false_iff_not] at this; omega
section
variable {p:Plan} {way:List AMove} {t:Train} {st:Int} {stops:List Int} (R:RunOk p way t st stops)
include R
theorem zt14 {i j:Nat} (h:i ≤ j) (hj:j < stops.length):stp0 stops i ≤ stp0 stops j:=by
 induction j with
 | zero=>rw [show i = 0 by omega]; omega
 | succ j ih =>
  by_cases e:i = j + 1
  ·subst e; omega
  ·have h1:=ih (by omega) (by omega)
   have h2:=R.up j hj
   omega
theorem zq22 {i:Nat} (hi:i < stops.length):1 ≤ stp0 stops i ∧ stp0 stops i ≤ 248000000:=by
 have h1:=zt14 R (Nat.zero_le i) hi
 have h2:=zt14 R (i:=i) (j:=stops.length - 1) (by omega) (by omega)
 have:=R.h0
 have:=R.la
 have:=R.b
 have:=R.ht.len
 omega
theorem zs25 {stop:Int} (hS:stop ≤ 1000000000):∀ (n:Nat) (tm:Int) (l:MotionLedger) (a b:Int) (x:MotionState) (g:Leg) (y:MotionState),LgOk t stop x → legN p way t st stop n tm l a b x = some (g,y) → LgOk t stop y:=by
 intro n
 induction n with
 | zero =>
  intro tm l a b x g y hx h
  unfold legN at h
  split at h
  ·cases h; exact hx
  ·cases h
 | succ n ih =>
  intro tm l a b x g y hx h
  unfold legN at h
  split at h
  ·cases h; exact hx
  ·cases hd:drvS p way t st stop x with
   | none=>rw [hd] at h; cases h
   | some d =>
    rw [hd] at h
    exact ih _ _ _ _ _ _ _ (zw16 R.hp R.hw R.ht R.hst hS hx hd).1 h
theorem LgOk.up {s s':Int} {x:MotionState} (h:LgOk t s x) (hs:s ≤ s'):LgOk t s' x:=⟨h.p,h.w,by have:=h.s; omega⟩
theorem dropS {i:Nat} (h:i + 1 < stops.length):stops.drop (i + 1) = stp0 stops (i + 1) :: stops.drop (i + 2):=by
 rw [List.drop_eq_getElem_cons h]
 congr 1
 unfold stp0
 simp [h]
theorem zq35:∀ (k i:Nat) (acc:List Leg) (x:MotionState),i + k + 1 = stops.length → acc.length ≤ i → LgOk t (stp0 stops i) x → ∃ T,Lp (drvFo t (some (runS p way t st stops)) (stops.drop 1)) k (acc,(i:Int),x.1,x.2.1) T ∧ (match drvL p way t st (stops.drop (i + 1)) x with | some (gs,z)=>T = .inl (acc ++ gs,z.1,z.2.1) | none=>∃ v w,T = .inr ([],4,v,w)):=by
 have hn:=R.hn
 intro k
 induction k with
 | zero =>
  intro i acc x hi hacc hx
  refine ⟨.inl (acc,x.1,x.2.1),Lp.done ?_, ?_⟩
  ·unfold drvFo
   have:(stops.drop 1).length = i:=by rw [List.length_drop]; omega
   subst this
   simp only [zb2,cond_false]
  ·rw [List.drop_of_length_le (by omega)]
   unfold drvL
   simp only [List.append_nil]
 | succ k ih =>
  intro i acc x hi hacc hx
  have hi1:i + 1 < stops.length:=by omega
  have hb:=zq22 R hi1
  have hup:=R.up i hi1
  have hxn:=LgOk.up R hx (s':=stp0 stops (i + 1)) (by omega)
  have hw:x.2.1 ≤ 1000000000000000:=hx.w.2
  have hdl:(stops.drop 1).length = stops.length - 1:=by rw [List.length_drop]
  have hix:idx (stops.drop 1) (i:Int) = some (stp0 stops (i + 1)):=by
   rw [zf1 0 (by omega)]
   congr 1
   unfold stp0
   simp [List.getD,Nat.add_comm]
  rw [dropS R hi1]
  obtain ⟨L,X,hleg⟩:=zy42 (stops:=stops) R.hp R.hw R.ht R.hst (stop:=stp0 stops (i + 1)) (by omega) hxn
  unfold drvL
  cases hl:legN p way t st (stp0 stops (i + 1)) 36000 0 (0,0,0,0,0,0,()) 0 0 x with
  | none =>
   rw [hl] at hleg
   refine ⟨.inr ([],4,x.1,x.2.1),Lp.done ?_,⟨_,_,rfl⟩⟩
   unfold drvFo
   simp only [zr1 (show i < (stops.drop 1).length by omega),cond_true,hix,Option.bind_some]
   show (Option.bind (zf3 (runS p way t st stops) x (stp0 stops (i + 1))) _:Option _) = _
   rw [hleg]; rfl
  | some gy =>
   obtain ⟨g,y⟩:=gy
   rw [hl] at hleg
   have hy:=zs25 R (by omega) _ _ _ _ _ _ _ _ hxn hl
   obtain ⟨T,h1,h2⟩:=ih (i + 1) (acc ++ [g]) y (by omega) (by simp; omega) hy
   refine ⟨T,Lp.step ?_ h1, ?_⟩
   ·unfold drvFo
    simp only [zr1 (show i < (stops.drop 1).length by omega),cond_true,hix,Option.bind_some]
    show (Option.bind (zf3 (runS p way t st stops) x (stp0 stops (i + 1))) _:Option _) = _
    rw [hleg,Option.bind_some]
    simp only [Bool.not_true,cond_false,decide_eq_false (show ¬ x.2.1 > 10000000000000000 by omega)]
    rw [zf5 (by simp; omega),Option.bind_some,zc1 (by omega)]
   ·simp only []
    rw [show i + 1 + 1 = i + 2 by omega] at h2
    cases hd:drvL p way t st (stops.drop (i + 2)) y with
    | none=>rw [hd] at h2; exact h2
    | some gz =>
     rw [hd] at h2
     simp only [] at h2 ⊢
     rw [h2,List.append_assoc]; rfl
theorem zb32:∀ (k i:Nat) (acc:List Leg) (x:MotionState),i + k + 1 = stops.length → acc.length ≤ i → LgOk t (stp0 stops i) x → ∃ T,Lp (rdrvFo p way t st stops) k (acc,((i + 1:Nat):Int),x.1,x.2.1) T ∧ (match drvL p way t st (stops.drop (i + 1)) x with | some (gs,z)=>T = .inl (acc ++ gs,z.1,z.2.1) ∧ z.2.1 ≤ 1000000000000000 | none=>T = .inr ([],false)):=by
 have hn:=R.hn
 intro k
 induction k with
 | zero =>
  intro i acc x hi hacc hx
  refine ⟨.inl (acc,x.1,x.2.1),Lp.done ?_, ?_⟩
  ·unfold rdrvFo
   have:stops.length = i + 1:=by omega
   rw [← this]
   simp only [zb2,cond_false]
  ·rw [List.drop_of_length_le (by omega)]
   unfold drvL
   simp only [List.append_nil]
   exact ⟨trivial,hx.w.2⟩
 | succ k ih =>
  intro i acc x hi hacc hx
  have hi1:i + 1 < stops.length:=by omega
  have hb:=zq22 R hi1
  have hup:=R.up i hi1
  have hxn:=LgOk.up R hx (s':=stp0 stops (i + 1)) (by omega)
  have hw:x.2.1 ≤ 1000000000000000:=hx.w.2
  have hix:idx stops ((i + 1:Nat):Int) = some (stp0 stops (i + 1)):=zf1 0 hi1
  rw [dropS R hi1]
  have hleg:=zk40 (stops:=stops) (i:=((i + 1:Nat):Int)) R.hp R.hw R.ht R.hst (stop:=stp0 stops (i + 1)) (by omega) hix (by omega) (by omega) hxn acc (by omega)
  unfold drvL
  cases hl:legN p way t st (stp0 stops (i + 1)) 36000 0 (0,0,0,0,0,0,()) 0 0 x with
  | none =>
   rw [hl] at hleg
   refine ⟨.inr ([],false),Lp.done ?_,rfl⟩
   unfold rdrvFo
   simp only [zr1 hi1,cond_true,hix,Option.bind_some]
   exact hleg
  | some gy =>
   obtain ⟨g,y⟩:=gy
   rw [hl] at hleg
   have hy:=zs25 R (by omega) _ _ _ _ _ _ _ _ hxn hl
   obtain ⟨T,h1,h2⟩:=ih (i + 1) (acc ++ [g]) y (by omega) (by simp; omega) hy
   refine ⟨T,Lp.step ?_ h1, ?_⟩
   ·unfold rdrvFo
    simp only [zr1 hi1,cond_true,hix,Option.bind_some]
    rw [zc1 (by omega)] at hleg
    exact hleg
   ·simp only []
    rw [show i + 1 + 1 = i + 2 by omega] at h2
    cases hd:drvL p way t st (stops.drop (i + 2)) y with
    | none=>rw [hd] at h2; exact h2
    | some gz =>
     rw [hd] at h2
     simp only [] at h2 ⊢
     refine ⟨?_,h2.2⟩
     rw [h2.1,List.append_assoc]; rfl
def st0 (t:Train) (stops:List Int):MotionState:=(0,10 * t.1 * stp0 stops 0,())
theorem zr22:w64 (w64 (10 * t.1) * stp0 stops 0) = (st0 t stops).2.1 ∧ LgOk t (stp0 stops 0) (st0 t stops):=by
 have hm:=R.ht.m
 have hn:=R.hn
 have hb:=zq22 R (i:=0) (by omega)
 have h1:=zj4 (a:=10 * t.1) (b:=stp0 stops 0) (A:=800000) (B:=248000000) ⟨by omega,by omega⟩ ⟨by omega,by omega⟩
 refine ⟨?_,⟨by show (0:Int) ≤ 0; omega,by show (0:Int) ≤ _; omega⟩,⟨?_,by show 10 * t.1 * stp0 stops 0 ≤ _; omega⟩, ?_⟩
 ·rw [zh (n:=10 * t.1) (by omega) (by omega),zh (by omega) (by omega)]; rfl
 ·show 10 * t.1 ≤ 10 * t.1 * stp0 stops 0
  have h9:10 * t.1 * 1 ≤ 10 * t.1 * stp0 stops 0:=Int.mul_le_mul_of_nonneg_left hb.1 (by omega)
  omega
 ·show 10 * t.1 * stp0 stops 0 / (10 * t.1) ≤ stp0 stops 0
  rw [Int.mul_ediv_cancel_left _ (by omega)]
  omega
def legsS (p:Plan) (way:List AMove) (t:Train) (st:Int) (stops:List Int):Option (List Leg):=(drvL p way t st (stops.drop 1) (st0 t stops)).map (·.1)
theorem zy16 (hsb:stopsB p way t st stops = true):ze2 p way t st stops = some (match legsS p way t st stops with | some gs=>(gs,0) | none=>([],4)):=by
 have hn:=R.hn
 have hw:=R.hw.n
 unfold ze2
 rw [zr25 p way t st stops (by omega) (by omega),hsb]
 simp only [if_true,Option.bind_some,Bool.not_true,cond_false]
 have h0:idx stops 0 = some (stp0 stops 0):=zf1 (i:=0) 0 (by omega)
 have hsl:slO stops 1 (lenI stops) = some (stops.drop 1):=by
  rw [zy24 (by rw [zo1]; omega),zo1]
  simp
 rw [h0,Option.bind_some,hsl,Option.bind_some,(zr22 R).1]
 obtain ⟨T,h1,h2⟩:=zq35 R (stops.length - 1) 0 [] (st0 t stops) (by omega) (by simp) (zr22 R).2
 have hB:=h1.big (by simp only [big]; omega)
 refine (congrArg (fun o=>Option.bind o fun t46:((List Leg) × Int × Int) ⊕ ((List Leg) × Int × Int × Int)=>alt (fun b48=>some ((b48.1,(0:Int)))) (fun b49=>some ((b49.1,b49.2.1))) t46) hB).trans ?_
 rw [Option.bind_some]
 unfold legsS
 rw [Nat.zero_add] at h2
 cases hd:drvL p way t st (stops.drop 1) (st0 t stops) with
 | some gz =>
  rw [hd] at h2
  simp only [] at h2
  rw [h2]; rfl
 | none =>
  rw [hd] at h2
  obtain ⟨v,w,h2⟩:=h2
  rw [h2]; rfl
theorem zp27:zp7 p way t st stops = some (match legsS p way t st stops with | some gs=>(gs,true) | none=>([],false)):=by
 have hn:=R.hn
 have hw:=R.hw.n
 have h0:idx stops 0 = some (stp0 stops 0):=zf1 (i:=0) 0 (by omega)
 obtain ⟨T,h1,h2⟩:=zb32 R (stops.length - 1) 0 [] (st0 t stops) (by omega) (by simp) (zr22 R).2
 have hB:=h1.big (by simp only [big]; omega)
 rw [← (zr22 R).1] at hB
 unfold zp7
 rw [h0,Option.bind_some]
 refine (congrArg (fun o=>Option.bind o fun t421:((List Leg) × Int × Int) ⊕ ((List Leg) × Bool)=>alt (fun b423=>some ((b423.1,(decide (b423.2.2 ≤ 10000000000000000))))) (fun b424=>some ((b424.1,b424.2))) t421) hB).trans ?_
 rw [Option.bind_some]
 unfold legsS
 rw [Nat.zero_add] at h2
 cases hd:drvL p way t st (stops.drop 1) (st0 t stops) with
 | some gz =>
  rw [hd] at h2
  simp only [] at h2
  rw [h2.1]
  simp only [zz3,decide_eq_true (show gz.2.2.1 ≤ 10000000000000000 by have:=h2.2; omega)]
  rfl
 | none =>
  rw [hd] at h2
  simp only [] at h2
  rw [h2]; rfl
end
end Go.Ai.Sx
