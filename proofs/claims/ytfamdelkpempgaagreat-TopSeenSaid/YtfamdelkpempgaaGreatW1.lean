/- An abstract interpreter for the model's code: append,copy,len,maps,max and min. -/
import Derived.Test.YtfamdelkpempgaaGreatW0
import Derived.Lib.AppendZeros
import Derived.Calls
import Derived.Defers
import Derived.Recover
set_option linter.unusedSimpArgs false
set_option linter.unusedVariables false
set_option linter.unusedSectionVars false
open Option renaming some→Ob,none→Oe
open Bool renaming false→Oc,true→Od
open Option renaming bind->Zb,bind_some->Zs
namespace Go.Ai
section
variable {T:Tab} {P:Program} (ok:T.Ok P) {base:Nat} {V:Emb} {h:za} {w:World}
theorem zwi {es n:Nat} {x:zb} {x':Value} {news:List zb} (hr:H0 base V h w) (hx:zag V x x') (hes:0<es) (hl:arow es n x h=Ob news) :
 news.length=n*es/\∃ news',zcB V news news' /\
  ((x'=.slice Oe 0 0/\n=0/\news'=[])\/∃ a len c,x'=.slice (Ob a) len c/\n<=len/\(x=.nsz->False)/\∀ (w':World),w'.heap=w.heap->∀ j v,news'[j]?=Ob v->w'.cell? (a.add j)=Ob v):=by
 unfold arow at hl;split at hl
 . split at hl
   . rename_i hn; cases hl; subst hn;cases hx;exact ⟨by simp,[],.nil _,.inl ⟨rfl,rfl,rfl⟩⟩
   . cases hl
 . rename_i b off len es' cap;split at hl
   . rename_i hn0;split at hl
     case isFalse=>cases hl
     rename_i hes';cases hl;subst hn0 hes';cases hx with
     | slice _ _ _ _ _ l a0 ccap hb hlen hcap hoff=>
     exact ⟨by simp,[],.nil _,.inr ⟨_,len,ccap,rfl,Nat.zero_le _,by simp,by simp⟩⟩
   rename_i hn0;split at hl
   case isFalse=>cases hl
   rename_i hc;obtain ⟨rfl,hn⟩:=hc;split at hl
   case h_2=>cases hl
   rename_i cells ro hg;split at hl
   case isFalse=>cases hl
   rename_i hle;cases hl;cases hx with
   | slice _ _ _ _ _ l a0 ccap hb hlen hcap hoff=>
   obtain ⟨cc,el,fz,h1,h2,h3,h4,h5⟩:=znd hr hb hg;refine ⟨by simp; omega,(cc.toList.drop (l.o+off)).take (n*es'),zg7 h4 off _ hle J,.inr ⟨_,len,ccap,rfl,hn,by simp, ?_⟩⟩;intro w' hw j v hv;rcases hoff with h0 | ⟨h6,h7⟩
   . have:n=0:=J
     subst this;simp at hv
   . subst h6;have:=zg8 w' l.c (l.o+off) (n*es') cc el fz (by rw [hw]; exact h1) j v hv;exact this
 . cases hl
include ok in
theorem zun {st xt ty:TypeId} {s x v:zb} {s' x':Value} {h':za} (hr:H0 base V h w) (hfr:h'.next≠h.next->V h.next=Oe) (hs:zag V s s') (hx:zag V x x') (hl:azeros T st xt s x h=Ob (v,h')) :
 VOk P base V h w (Builtin.append_ #[st,xt] ty #[s',x']) v h':=by
 unfold azeros at hl;split at hl
 case h_2=>cases hl
 rename_i elem n hux hus;split at hl
 case h_2=>cases hl
 rename_i i hi;obtain ⟨_,j,hj,hjs,hjb,hjz,_⟩:=ok.types elem i hi;split at hl
 case h_2=>cases hl
 rename_i z hz;have hiz:i.zero=Ob z:=by unfold zeJ at hz; rw [hi] at hz; exact hz
 obtain ⟨zv,hz1,hz2⟩:=hjz z hiz;split at hl
 . cases hl
 rename_i hes;split at hl
 case isFalse=>cases hl
 rename_i hb;obtain ⟨hn0,hbytes,hmax⟩:=hb;cases hl;cases hs;cases hx;have hes0:0<i.size:=J
 have hzl:z.cells.length=i.size:=J
 have hzr:=(zeo V zv z hz2).cells (zhu hz2);have hzc:zv.cells.size=j.size:=by
  have:=hzr.1;simp at this; omega
 obtain ⟨m,rfl⟩:∃ m:Nat,n=(m:Int):=⟨n.toNat,by omega⟩;simp only [Int.toNat_natCast] at hbytes hfr ⊢;have hrun:=Lib.run_append_nil_zeros (P:=P) w st xt ty elem j zv .i64 .i64 (ok.und hus) (ok.und hux) hj hz1 m J J J (by rw [hjb]; omega);generalize hcap:grownCap w m 0 elem=ncap at hrun;have hge:m<=ncap:=by rw [← hcap]; exact grownCap_ge _ _ _ _
 have hsize:(Builtin.zeroCells zv.cells m++Builtin.zeroCells zv.cells (ncap-m)).size=ncap*j.size:=by
  simp only [Array.size_append,size_zeroCells,hzc,← Nat.add_mul]; congr 1; omega
 have hcr:=zln hzr J m;have hcl:(copies m z.cells).length=(Builtin.zeroCells zv.cells m).size:=by rw [zep,size_zeroCells,hzl,hzc,hjs]
 obtain ⟨a1,a2⟩:=zgm (cc:=Builtin.zeroCells zv.cells m++Builtin.zeroCells zv.cells (ncap-m)) hr (hfr (by simp [za.next_push])) (cells:=copies m z.cells) (by
  rw [Array.toList_append,List.take_append_of_le_length (by rw [hcl]; simp),List.take_of_length_le (by rw [hcl]; simp)];have e:Builtin.zeroCells zv.cells m=(Array.range (m*z.cells.length)).map (λi=>zv.cells[i%zv.cells.size]!):=by
   unfold Builtin.zeroCells;rw [hzc,hzl,hjs]
  rw [e];exact hcr) (by rw [hsize,zep,hzl,hjs]; exact Nat.mul_le_mul_right _ hge) elem
  (w.drew.alloc (.cells (Builtin.zeroCells zv.cells m++Builtin.zeroCells zv.cells (ncap-m)) elem)) rfl rfl rfl rfl
 refine ⟨_,_,_,hrun, ?_,a1,a2⟩;refine .slice h.next 0 m i.size Oe ⟨w.heap.size,0,_⟩ _ ncap (Emb.add_same _ _ _) hge (λk hk=>by cases hk) (.inr ⟨rfl, ?_⟩);simp only [hsize,hjs]; omega
include ok in
theorem zrJ {argTypes:Array TypeId} {ty:TypeId} {s x v:zb} {s' x':Value} {h':za} (hr:H0 base V h w) (hfr:h'.next≠h.next->V h.next=Oe) (hs:zag V s s') (hx:zag V x x') (hl:aappend T argTypes s x h=Ob (v,h')) :
 VOk P base V h w (Builtin.append_ argTypes ty #[s',x']) v h':=by
 unfold aappend at hl;split at hl
 case h_2=>cases hl
 rename_i st xt hat;have hat':argTypes=#[st,xt]:=by apply Array.ext'; simpa using hat
 subst hat';split at hl
 . exact zun ok hr hfr hs hx hl
 rename_i hst;simp only [ne_eq,Decidable.not_not] at hst;subst hst;split at hl
 case h_2=>cases hl
 rename_i elem hu;split at hl
 case h_2=>cases hl
 rename_i i hi;obtain ⟨_,j,hj,hjs,hjb,hjz,_⟩:=ok.types elem i hi;simp only at hl;split at hl
 . cases hl
 rename_i z hz;have hiz:i.zero=Ob z:=by unfold zeJ at hz; rw [hi] at hz; exact hz
 obtain ⟨zv,hz1,hz2⟩:=hjz z hiz;split at hl
 . cases hl
 rename_i hes;have hes0:0<i.size:=J
 have hzl:z.cells.length=i.size:=J
 have hzc:zv.cells.size=j.size:=by
  have:=((zeo V zv z hz2).cells (zhu hz2)).1;simp at this; omega
 split at hl
 case h_2=>cases hl
 rename_i news hrow;generalize hn:lenOf x=n at hl hrow;obtain ⟨hnl,news',hnr,hcase⟩:=zwi hr hx hes0 hrow;have hnl':news'.length=n*j.size:=by rw [← hnr.1,hnl,hjs]
 split at hl
 . -- s is nil
   cases hs;split at hl
   . rename_i hn0;cases hl;refine ⟨.slice Oe 0 0,w,V, ?_,.nsz,hr,.refl _ _ _⟩;rcases hcase with ⟨rfl,_,_⟩ | ⟨a,len,c,rfl,hle,_,hcell⟩
     . simp [Builtin.append_,zh (ok.und hu),zaj hj,Builtin.lenOf,Builtin.firstCells]
     . have hlen:len=n:=by
        cases hx with
        | undef=>simp [arow] at hrow
        | slice=>exact hn
       subst hlen;subst hn0;have hf:=run_firstCells_some (P:=P) w j.size 0 a 0 c [] Ol Ol;simp [Builtin.append_,zh (ok.und hu),zaj hj,Builtin.lenOf,hf]
   . rename_i hn0;split at hl
     case isFalse=>cases hl
     rename_i hb;cases hl;rcases hcase with ⟨rfl,hq,_⟩ | ⟨a,len,c,rfl,hle,hxn,hcell⟩
     . omega
     have hlen:len=n:=by
      cases hx with
      | undef=>simp [arow] at hrow
      | slice=>exact hn
     subst hlen;have hrun:=run_append_nil (P:=P) w st ty elem j zv (ok.und hu) hj hz1 a len c news' hnl' (hcell w rfl) J J (by rw [hjb]; omega);generalize hcap:grownCap w len 0 elem=ncap at hrun;have hge:len<=ncap:=by rw [← hcap]; exact grownCap_ge _ _ _ _
     have hsize:(news'.toArray++Builtin.zeroCells zv.cells (ncap-len)).size=ncap*j.size:=by
      simp only [Array.size_append,List.size_toArray,size_zeroCells,hzc,hnl',← Nat.add_mul]; congr 1; omega
     obtain ⟨a1,a2⟩:=zgm (cc:=news'.toArray++Builtin.zeroCells zv.cells (ncap-len)) hr (hfr (by simp [za.next_push])) (cells:=news) (by simpa [hnr.1] using hnr) (by rw [hsize,hnl,hjs]; exact Nat.mul_le_mul_right _ hge) elem
      (w.drew.alloc (.cells (news'.toArray++Builtin.zeroCells zv.cells (ncap-len)) elem)) rfl rfl rfl rfl
     refine ⟨_,_,_,hrun, ?_,a1,a2⟩;refine .slice h.next 0 len i.size Oe ⟨w.heap.size,0,_⟩ _ ncap (Emb.add_same _ _ _) hge (λk hk=>by cases hk) (.inr ⟨rfl, ?_⟩);simp only [hsize,hjs]; omega
 . -- s is a slice
   rename_i b off len es' cap;split at hl
   case isFalse=>cases hl
   rename_i hc;obtain ⟨rfl,hbytes,hmax⟩:=hc;split at hl
   case h_2=>cases hl
   rename_i cells ro hg;have hs2:=hs;cases hs2 with
   | slice _ _ _ _ _ l a0 ccap hb hlen hcap hoff=>
   obtain ⟨cc,el,fz,hw1,hw2,hw3,hw4,hw5⟩:=znd hr hb hg
   -- the source,where there is one
   have src:∃ a c,(0<n->x'=.slice (Ob a) n c/\∀ (w':World),w'.heap=w.heap->∀ j v,news'[j]?=Ob v->w'.cell? (a.add j)=Ob v):=by
    rcases hcase with ⟨_,hq,_⟩ | ⟨a,len2,c,rfl,hle,hxn,hcell⟩
    . exact ⟨⟨0,0,Oe⟩,0,λq=>by omega⟩
    . refine ⟨a,c,λ_=>⟨?_,hcell⟩⟩;cases hx with
      | undef=>simp [arow] at hrow
      | slice=>simp only [lenOf] at hn; rw [hn]
   -- n=0: the very slice
   have zero:n=0->(Builtin.append_ #[st,st] ty #[.slice (Ob a0) len ccap,x']).run P w=.ok (.slice (Ob a0) len ccap) w:=by
    intro hn0;rcases hcase with ⟨rfl,_,_⟩ | ⟨a,len2,c,rfl,hle,_,hcell⟩
    . simp [Builtin.append_,zh (ok.und hu),zaj hj,Builtin.lenOf,Builtin.firstCells,hlen,storeCells]
    . have hlen2:len2=0:=by
       cases hx with
       | undef=>simp [arow] at hrow
       | slice=>simp only [lenOf] at hn; omega
      subst hlen2;have hf:=run_firstCells_some (P:=P) w j.size 0 a 0 c [] Ol Ol;simp [Builtin.append_,zh (ok.und hu),zaj hj,Builtin.lenOf,hf,hlen,storeCells]
   -- there is room: in place
   have room:len+n<=ccap->fz=(0,0)->base<=l.c->news.all zb.one=Od->ccap≠0->(Builtin.append_ #[st,st] ty #[.slice (Ob a0) len ccap,x']).run P w =
    .ok (.slice (Ob a0) (len+n) ccap) (w.setRow l.c (cc.toList.take (l.o+(off+len*i.size))++news'++cc.toList.drop (l.o+(off+len*i.size)+news'.length)).toArray):=by
    intro hroom hfz hbase hone hc0;subst hfz;rcases hoff with h0 | ⟨ho,hfit⟩
    . omega
    subst ho;have hst:=run_storeCells_at P l.c (l.o+(off+len*i.size)) el news' 0 cc w hw1 (by
     rw [hnl',hjs];have h1:(len+n)*i.size<=ccap*i.size:=Nat.mul_le_mul_right _ hroom;rw [Nat.add_mul] at h1;omega) (zl2 hnr hone)
    simp only [Nat.add_zero] at hst;by_cases hn0:n=0
    . subst hn0;have e:news'=[]:=List.eq_nil_of_length_eq_zero (by rw [hnl']; simp);subst e;rw [zero rfl];have e2:w.setRow l.c (cc.toList.take (l.o+(off+len*i.size))++[]++cc.toList.drop (l.o+(off+len*i.size)+([]:List Value).length)).toArray=w:=by
       simp only [List.append_nil,List.length_nil,Nat.add_zero,List.take_append_drop,Array.toArray_toList];exact setRow_self w l.c cc el (0,0) hw1
      rw [e2]; rfl
    . obtain ⟨a,c,hsrc⟩:=src;obtain ⟨rfl,hcell⟩:=hsrc J;have hf:=run_firstCells_some (P:=P) w j.size n a n c news' hnl' (hcell w rfl);rw [hjs] at hf;simp [Builtin.append_,zh (ok.und hu),zaj hj,Builtin.lenOf,hroom,hf,Addr.add_lit,hjs,Nat.add_assoc] at hst ⊢;rw [hst];rfl
   -- there is Oe: a new row
   have grow:ccap<len+n->off+len*i.size<=cells.length->∃ v' w' V',(Builtin.append_ #[st,st] ty #[.slice (Ob a0) len ccap,x']).run P w=.ok v' w' /\
    ∀ h2:za,h2.next=h.next->H0 base V h2 w->V h.next=Oe->zag V' (.slice h.next 0 (len+n) i.size Oe) v'/\H0 base V' (h2.push (.arr ((cells.drop off).take (len*i.size)++news) Oc)) w'/\Trans V h2 w V' (h2.push (.arr ((cells.drop off).take (len*i.size)++news) Oc)) w':=by
    intro hg2 hle2;obtain ⟨a,c,hsrc⟩:=src;have hn0:0<n:=J
    obtain ⟨rfl,hcell⟩:=hsrc hn0;have holdl:zcB V ((cells.drop off).take (len*i.size)) ((cc.toList.drop (l.o+off)).take (len*i.size)):=zg7 hw4 off _ hle2 J;have hol:((cc.toList.drop (l.o+off)).take (len*i.size)).length=len*j.size:=by rw [← holdl.1,hjs]; simp; omega
    have hold:∀ (w':World),w'.heap=w.heap->∀ j v,((cc.toList.drop (l.o+off)).take (len*i.size))[j]?=Ob v->w'.cell? ((a0:Addr).add j)=Ob v:=by
     intro w' hw' k v hv;rcases hoff with h0 | ⟨h6,h7⟩
     . have:len=0:=J
       subst this;simp at hv
     . subst h6;exact zg8 w' l.c (l.o+off) (len*i.size) cc el fz (by rw [hw']; exact hw1) k v hv
    have hrun:=run_append_grow (P:=P) w st ty elem j zv (ok.und hu) hj hz1 a0 len ccap _ hol (hold w rfl) a n c news' hnl' (hcell w rfl) hg2 J (growslice_fits J (by rw [hjb]; omega));generalize hcap:grownCap w (len+n) ccap elem=ncap at hrun;have hge:len+n<=ncap:=by rw [← hcap]; exact grownCap_ge _ _ _ _
    refine ⟨_,_,V.add h.next ⟨w.heap.size,0,(((cc.toList.drop (l.o+off)).take (len*i.size)).toArray++news'.toArray++Builtin.zeroCells zv.cells (ncap-(len+n))).size⟩,hrun,λh2 hn2 hr2 hfr2=>?_⟩;have hsize:(((cc.toList.drop (l.o+off)).take (len*i.size)).toArray++news'.toArray++Builtin.zeroCells zv.cells (ncap-(len+n))).size=ncap*j.size:=by
     simp only [Array.size_append,List.size_toArray,size_zeroCells,hzc,hnl',hol,← Nat.add_mul]; congr 1; omega
    have hrel:=holdl.append hnr;obtain ⟨a1,a2⟩:=zgm (cc:=((cc.toList.drop (l.o+off)).take (len*i.size)).toArray++news'.toArray++Builtin.zeroCells zv.cells (ncap-(len+n))) hr2 (by rw [hn2]; exact hfr2) (cells:=(cells.drop off).take (len*i.size)++news) (by
     have e:(((cc.toList.drop (l.o+off)).take (len*i.size)).toArray++news'.toArray++Builtin.zeroCells zv.cells (ncap-(len+n))).toList.take ((cells.drop off).take (len*i.size)++news).length=(cc.toList.drop (l.o+off)).take (len*i.size)++news':=by
      rw [hrel.1];simp only [Array.toList_append];exact List.take_left
     rw [e]; exact hrel) (by
     rw [hsize,hrel.1,List.length_append,hol,hnl',← Nat.add_mul];exact Nat.mul_le_mul_right _ hge) elem
     (w.drew.alloc (.cells (((cc.toList.drop (l.o+off)).take (len*i.size)).toArray++news'.toArray++Builtin.zeroCells zv.cells (ncap-(len+n))) elem)) rfl rfl rfl rfl
    rw [hn2] at a1 a2;refine ⟨.slice h.next 0 (len+n) i.size Oe ⟨w.heap.size,0,_⟩ _ ncap (Emb.add_same _ _ _) hge (λk hk=>by cases hk) (.inr ⟨rfl, ?_⟩),a1,a2⟩;simp only [hsize,hjs]; omega
   split at hl
   . -- cap known
     rename_i c;have hcc:=hcap c rfl;subst hcc;split at hl
     . rename_i hroom;split at hl
       case isFalse=>cases hl
       rename_i hcond;obtain ⟨rfl,hle2,hone⟩:=hcond;cases hl;obtain ⟨hfz,hbase⟩:=hw5 rfl;by_cases hc0:ccap=0
       . have h1:len=0:=J
         have h2:n=0:=J
         subst h1 h2;have e:news=[]:=List.eq_nil_of_length_eq_zero (by rw [hnl]; simp);subst e;have ho:Owns h b:=by unfold Owns; rw [hg]; trivial
         have e3:splice cells (off+0*i.size) []=cells:=by unfold splice; simp
         have hblk:=hr.blk b l hb;rw [hg] at hblk;obtain ⟨a1,a2⟩:=zfO hr hb ho (.arr cells Oc) w rfl (λ_ _=>rfl) rfl rfl rfl hblk (by rw [hg]; simp);rw [e3];exact ⟨_,w,V,zero rfl,hs,a1,a2⟩
       . have hrun:=room hroom hfz hbase hone hc0;have hle3:off+len*i.size+news.length<=cells.length:=by rw [hnl]; rw [Nat.add_mul] at hle2; omega
         have ho:Owns h b:=by unfold Owns; rw [hg]; trivial
         subst hfz;obtain ⟨a1,a2⟩:=zfO hr hb ho (.arr (splice cells (off+len*i.size) news) Oc) (w.setRow l.c (cc.toList.take (l.o+(off+len*i.size))++news'++cc.toList.drop (l.o+(off+len*i.size)+news'.length)).toArray)
          Ol (λk hk=>setRow_other w l.c k _ hk) rfl rfl rfl
          ⟨_,el,(0,0),setRow_heap w l.c cc _ el _ hw1,by simp; have:=hnr.1; omega,by rw [zgH hle3]; omega,zlm hw4 J hnr hle3,λ_=>⟨rfl,hbase⟩⟩ (by rw [hg]; simp)
         refine ⟨_,_,V,hrun, ?_,a1,a2⟩;exact .slice b off (len+n) i.size _ l a0 ccap hb hroom hcap hoff
     . rename_i hroom;split at hl
       case isFalse=>cases hl
       rename_i hle2;cases hl;obtain ⟨v',w',V',h1,h2⟩:=grow J hle2;obtain ⟨a1,a2,a3⟩:=h2 h rfl hr (hfr (by simp [za.next_push]));exact ⟨v',w',V',h1,a1,a2,a3⟩
   . -- cap unknown
     split at hl
     case isFalse=>cases hl
     rename_i hcond;obtain ⟨rfl,hle2,hone⟩:=hcond;cases hl;obtain ⟨hfz,hbase⟩:=hw5 rfl;have ho:Owns h b:=by unfold Owns; rw [hg]; trivial
     by_cases hroom:len+n<=ccap
     . -- in place: the block goes over into a new one
       have holdl:zcB V ((cells.drop off).take (len*i.size)) ((cc.toList.drop (l.o+off)).take (len*i.size)):=zg7 hw4 off _ hle2 J;by_cases hc0:ccap=0
       . have h1:len=0:=J
         have h2:n=0:=J
         subst h1 h2;have e:news=[]:=List.eq_nil_of_length_eq_zero (by rw [hnl]; simp);subst e;obtain ⟨a1,a2⟩:=zpF hr (hfr (by simp [za.next_push,za.next_set])) hb ho (.arr ((cells.drop off).take (0*i.size)++[]) Oc) 0 w rfl (λ_ _=>rfl) rfl rfl rfl
          ⟨cc,el,fz,hw1,hw2,by simp,by simp,λ_=>⟨hfz,hbase⟩⟩ (by rw [hg]; simp)
         refine ⟨_,w,_,zero rfl, ?_,a1,a2⟩;exact .slice h.next 0 0 i.size Oe ⟨l.c,0,l.n⟩ _ ccap (Emb.add_same _ _ _) J (λk hk=>by cases hk) (.inl hc0)
       . have hrun:=room hroom hfz hbase hone hc0;rcases hoff with h0 | ⟨h6,h7⟩
         . omega
         subst hfz h6;have hle3:l.o+off+(len+n)*i.size<=l.n:=by
          have:(len+n)*i.size<=ccap*i.size:=Nat.mul_le_mul_right _ hroom;omega
         rw [Nat.add_mul] at hle3;have hlenr:((cells.drop off).take (len*i.size)++news).length=len*i.size+n*i.size:=by
          rw [List.length_append,holdl.1,hnl]; simp; omega
         obtain ⟨a1,a2⟩:=zpF hr (hfr (by simp [za.next_push,za.next_set])) hb ho (.arr ((cells.drop off).take (len*i.size)++news) Oc) (l.o+off) (w.setRow l.c (cc.toList.take (l.o+(off+len*i.size))++news'++cc.toList.drop (l.o+(off+len*i.size)+news'.length)).toArray)
          Ol (λk hk=>setRow_other w l.c k _ hk) rfl rfl rfl
          ⟨_,el,(0,0),setRow_heap w l.c cc _ el _ hw1,by simp; have:=hnr.1; omega,by rw [hlenr]; omega,(by
           intro k v hv;have hrel:=holdl.append hnr;obtain ⟨v',hv',hvv⟩:=hrel.at hv;refine ⟨v', ?_,hvv.mono (.add (hfr (by simp [za.next_push,za.next_set])))⟩;simp only [List.getElem?_toArray];have e2:cc.toList.length=l.n:=by simpa using hw2
           by_cases hk:k<len*i.size
           . rw [List.getElem?_append_left Oj,List.getElem?_take,if_pos hk,List.getElem?_drop] at hv';rw [List.append_assoc,List.getElem?_append_left Oj,List.getElem?_take,if_pos J];exact hv'
           . rw [List.getElem?_append_right Oj] at hv';have e4:((cc.toList.drop (l.o+off)).take (len*i.size)).length=len*i.size:=by simp; omega
             rw [e4] at hv';have hk2:k-len*i.size<news'.length:=(List.getElem?_eq_some_iff.1 hv').1;have e5:(cc.toList.take (l.o+(off+len*i.size))).length=l.o+(off+len*i.size):=by simp; omega
             rw [List.append_assoc,List.getElem?_append_right (by rw [e5]; omega),e5,List.getElem?_append_left J];rw [show l.o+off+k-(l.o+(off+len*i.size))=k-len*i.size from by omega];exact hv'),λ_=>⟨rfl,hbase⟩⟩ (by rw [hg]; simp)
         refine ⟨_,_,_,hrun, ?_,a1,a2⟩;exact .slice h.next 0 (len+n) i.size Oe ⟨l.c,l.o+off,l.n⟩ _ ccap (Emb.add_same _ _ _) hroom (λk hk=>by cases hk) (.inr ⟨rfl,h7⟩)
     . obtain ⟨v',w',V',h1,h2⟩:=grow J hle2;have hkill:=zfO hr hb ho .dead w rfl (λ_ _=>rfl) rfl rfl rfl trivial (by rw [hg]; simp);obtain ⟨a1,a2,a3⟩:=h2 (h.set b .dead) rfl hkill.1 (hfr (by simp [za.next_push,za.next_set]));exact ⟨v',w',V',h1,a1,a2,hkill.2.trans a3⟩
 . cases hl
include ok in
theorem zwS {argTypes:Array TypeId} {ty:TypeId} {d s v:zb} {d' s':Value} {h':za} (hr:H0 base V h w) (hd:zag V d d') (hs:zag V s s') (hl:acopy T argTypes d s h=Ob (v,h')) :
 VOk P base V h w (Builtin.copy_ argTypes ty #[d',s']) v h':=by
 unfold acopy at hl;split at hl
 case h_2=>cases hl
 rename_i dt hdt;split at hl
 case h_2=>cases hl
 rename_i elem hu;split at hl
 case h_2=>cases hl
 rename_i es hes;obtain ⟨j,hj,hjs⟩:=ok.size hes;simp only at hl;split at hl
 . cases hl
 rename_i hes0;split at hl
 case h_2=>cases hl
 rename_i news hrow;generalize hn:Nat.min (lenOf s) (lenOf d)=n at hl hrow;obtain ⟨hnl,news',hnr,hcase⟩:=zwi hr hs J hrow;have hnl':news'.length=n*j.size:=by rw [← hnr.1,hnl,hjs]
 have hlen:(Builtin.lenOf s').run P w=.ok (lenOf s) w:=by
  rcases hcase with ⟨rfl,_,_⟩ | ⟨a,len2,c,rfl,_,_,_⟩
  . cases hs with
    | undef=>simp [arow] at hrow
    | nsz=>simp [Builtin.lenOf,lenOf]
  . cases hs with
    | undef=>simp [arow] at hrow
    | slice=>simp [Builtin.lenOf,lenOf]
 have hf:(Builtin.firstCells j.size n s').run P w=.ok news'.toArray w:=by
  rcases hcase with ⟨rfl,_,rfl⟩ | ⟨a,len2,c,rfl,_,_,hcell⟩
  . exact run_firstCells_none w j.size n 0 0
  . exact run_firstCells_some w j.size n a len2 c news' hnl' (hcell w rfl)
 split at hl
 . cases hl;cases hd;refine ⟨_,w,V, ?_,.int .i64 _,hr,.refl _ _ _⟩;simp only [lenOf] at hn;have hn0:n=0:=by rw [← hn]; exact Nat.min_zero _
   subst hn0;simp [Builtin.copy_,hdt,zh (ok.und hu),hlen,zaj hj,goInt];rw [hf];simp
 . rename_i b off len es' cap;split at hl
   case h_2=>cases hl
   rename_i cells hg;split at hl
   case isFalse=>cases hl
   rename_i hc;obtain ⟨rfl,hle,hone⟩:=hc;cases hl;cases hd with
   | slice _ _ _ _ _ l a0 ccap hb hlen' hcap hoff=>
   have hn:(lenOf s).min len=n:=hn;rcases hoff with h0 | ⟨rfl,hfit⟩
   . have hn0:n=0:=by rw [← hn]; have:=Nat.min_le_right (lenOf s) len; simp only [Nat.min] at this ⊢; omega
     subst hn0;have e:news=[]:=List.eq_nil_of_length_eq_zero (by rw [hnl]; simp);have e':news'=[]:=List.eq_nil_of_length_eq_zero (by rw [hnl']; simp);subst e e';have ho:Owns h b:=by unfold Owns; rw [hg]; trivial
     have e3:splice cells off []=cells:=by unfold splice; simp
     have hblk:=hr.blk b l hb;rw [hg] at hblk;obtain ⟨a1,a2⟩:=zfO hr hb ho (.arr cells Oc) w rfl (λ_ _=>rfl) rfl rfl rfl hblk (by rw [hg]; simp);rw [e3];refine ⟨_,w,V, ?_,.int .i64 _,a1,a2⟩;simp [Builtin.copy_,hdt,zh (ok.und hu),hlen,zaj hj,goInt];rw [hn,hf];simp [storeCells]
   . obtain ⟨w',hst,hr',htr⟩:=zkc (P:=P) (off:=off) hr hb hg hnr (by rw [hnl]; exact hle) hone;refine ⟨_,w',V, ?_,.int .i64 _,hr',htr⟩;simp [Builtin.copy_,hdt,zh (ok.und hu),hlen,zaj hj,goInt];rw [hn,hf];simp [hst]
 . cases hl
def Scal (d:TypeDesc) (k:zb):Prop:=(∃ j n,d=.int j/\k=.int j n)\/(∃ c,d=.bool/\k=.bool c)
theorem zrK {k k2:zb} {k' k2':Value} {d:TypeDesc} {b:Bool} (h1:zag V k k') (h2:zag V k2 k2') (hk:zhS k k2=Ob b) (hd:Scal d k):Instr.sameNow d k' k2'=Ob b:=by
 rcases hd with ⟨j,n,rfl,rfl⟩ | ⟨c,rfl,rfl⟩
 . cases h1;cases h2<;>simp [zhS] at hk;simp [Instr.sameNow,hk]
 . cases h1;cases h2<;>simp [zhS] at hk;simp [Instr.sameNow,hk]
theorem zrL {d:TypeDesc} {k k2:zb} (hd:Scal d k):akey k k2=zhS k k2:=by
 rcases hd with ⟨j,n,rfl,rfl⟩ | ⟨c,rfl,rfl⟩<;>simp [akey]
theorem zrM {k:zb} {k':Value} {d:TypeDesc} (h1:zag V k k') (hd:Scal d k) :
    ∀ (es:List (zb×zb)) (ces:List MapEntry) (i:Nat) (r:Option (Nat×zb)),ces.length=es.length->(∀ (i:Nat) (k v:zb),es[i]?=Ob (k,v)->∃ e:MapEntry,ces[i]?=Ob e/\zag V k e.key/\zag V v e.val) ->
      afind k es i=Ob r->(r=Oe/\Instr.findNow d k' ces i=Ob Oe)\/(∃ m v v',r=Ob (m,v)/\i<=m/\m<i+es.length/\Instr.findNow d k' ces i=Ob (Ob (m,v'))/\zag V v v')
  | [],ces,i,r,hl,_,h=>by
    have:ces=[]:=List.eq_nil_of_length_eq_zero hl;subst this;simp [afind] at h;exact .inl ⟨h.symm,rfl⟩
  | (k2,v2)::es,ces,i,r,hl,he,h=>by
    cases ces with
    | nil=>simp at hl
    | cons c ces=>
      obtain ⟨e,h2,h3,h4⟩:=he 0 k2 v2 rfl;simp at h2; subst h2;simp only [afind] at h;rw [zrL hd] at h;cases hk:zhS k k2 with
      | none=>simp [hk] at h
      | some b=>
        have hs:=zrK h1 h3 hk hd;cases b with
        | true=>
          simp [hk] at h;exact .inr ⟨i,v2,c.val,h.symm,Nat.le_refl _,by simp,by simp [Instr.findNow,hs],h4⟩
        | false=>
          simp only [hk] at h;have ih:=zrM h1 hd es ces (i+1) r (by simpa using hl) (λj a b hj=>by have:=he (j+1) a b (by simpa using hj); simpa using this) h;simp only [Instr.findNow,hs];rcases ih with ⟨a,b⟩ | ⟨m,v,v',a,b,c',d',e'⟩
          · exact .inl ⟨a,b⟩
          · exact .inr ⟨m,v,v',a,by omega,by simp; omega,d',e'⟩
theorem zoJ {t:TypeId} {k:zb} (h:zid T t k=Od):∃ d,T.und t=Ob d/\Scal d k:=by
 unfold zid at h;split at h
 . rename_i hu; simp at h; subst h; exact ⟨_,hu,.inl ⟨_,_,rfl,rfl⟩⟩
 . rename_i hu; exact ⟨_,hu,.inr ⟨_,rfl,rfl⟩⟩
 . cases h
theorem zk6 {k:zb} {k1 k2:Value} {d:TypeDesc} (h1:zag V k k1) (hd:Scal d k) (hs:Instr.sameNow d k1 k2=Ob Od):Instr.sameBits 10000 k2 k1=Od:=by
 rcases hd with ⟨j,n,rfl,rfl⟩ | ⟨c,rfl,rfl⟩
 . cases h1;cases k2<;>simp [Instr.sameNow] at hs;simp [Instr.sameBits,hs]
 . cases h1;cases k2<;>simp [Instr.sameNow] at hs;simp [Instr.sameBits,hs]
theorem zjq {d:TypeDesc} {k':Value}:∀ (ces:List MapEntry) (i m:Nat) (v:Value),Instr.findNow d k' ces i=Ob (Ob (m,v))->∃ e,ces[m-i]?=Ob e/\i<=m/\Instr.sameNow d k' e.key=Ob Od
 | [],i,m,v,h=>by simp [Instr.findNow] at h
 | e::es,i,m,v,h=>by
  simp only [Instr.findNow] at h;split at h
  . rename_i hs;simp at h;obtain ⟨rfl,_⟩:=h;exact ⟨e,by simp,Nat.le_refl _,hs⟩
  . obtain ⟨e',h1,h2,h3⟩:=zjq es (i+1) m v h;refine ⟨e', ?_,by omega,h3⟩;rw [show m-i=(m-(i+1))+1 from by omega];simpa using h1
  . cases h
inductive zzk (T:Tab) (t:TypeId):zb->Prop where
 | s {d:TypeDesc} {k:zb} (hu:T.und t=Ob d) (hd:Scal d k):zzk T t k
 | f {fs:Array Field} {cs:List zb} (hu:T.und t=Ob (.struct fs)) (hf:zfM T 0 fs.toList cs=Od) (hs:((T.types.get t).map (·.stood)).getD Od=Oc):zzk T t (.agg cs)
theorem zhV {t:TypeId} {k:zb} (h:zgF T t k=Od):zzk T t k:=by
 unfold zgF at h;split at h
 . rename_i hu; simp at h; subst h; exact .s hu (.inl ⟨_,_,rfl,rfl⟩)
 . rename_i hu; exact .s hu (.inr ⟨_,rfl,rfl⟩)
 . rename_i hu;rw [Bool.and_eq_true,Bool.not_eq_true'] at h;exact .f hu h.1 h.2
 . cases h
theorem zoK : ∀ {fs : List Field} {cs : List zb} {i : Nat}, zfM T i fs cs = true → cs.length = fs.length ∧ ∀ (j : Nat) (f : Field), fs[j]? = some f → f.name ≠ "_" ∧ f.offset = i + j ∧ ∃ v d, cs[j]? = some v ∧ T.und f.type = some d ∧ Scal d v
 | [],[],_,_=>⟨rfl,fun j f hf=>by simp at hf⟩
 | [],_::_,_,h=>by simp [zfM] at h
 | _::_,[],_,h=>by simp [zfM] at h
 | f::fs,v::vs,i,h=>by
  simp only [zfM,Bool.and_eq_true] at h;obtain ⟨⟨⟨h1,h2⟩,h3⟩,h4⟩:=h;obtain ⟨k1,k2⟩:=zoK h4;refine ⟨by simp [k1],fun j g hg=>?_⟩;cases j with
  | zero=>
   simp at hg;subst hg;obtain ⟨d,hu,hd⟩:=zoJ h3;exact ⟨by simpa using h1,by have:=Nat.eq_of_beq_eq_true h2; omega,v,d,rfl,hu,hd⟩
  | succ j=>
   obtain ⟨a,b,u,d,c1,c2,c3⟩:=k2 j g (by simpa using hg);exact ⟨a,by omega,u,d,by simpa using c1,c2,c3⟩
theorem zpI {t:TypeId} {d:TypeDesc} {v:zb} (hu:T.und t=Ob d) (hd:Scal d v):zea T t=Ob Oc:=by
 unfold zea;rw [hu];rcases hd with ⟨_,_,rfl,_⟩ | ⟨_,rfl,_⟩<;>rfl
theorem znj {as bs : List zb} : ∀ (fs : List Field) (i : Nat) {b : Bool}, (∀ (j : Nat) (f : Field), fs[j]? = some f → f.name ≠ "_" ∧ f.offset = i + j ∧ ∃ v d, as[i + j]? = some v ∧ T.und f.type = some d ∧ Scal d v) →
    fs.length=(as.drop i).length->akeys (as.drop i) (bs.drop i)=Ob b ->
      zdp (fun f=>match apart T f.type as f.offset,apart T f.type bs f.offset with
        | some u,Ob v=>aeq T 1 f.type u v
        | _,_=>Oe) fs=Ob b
  | [],i,b,_,hl,h=>by
    have e:as.drop i=[]:=List.eq_nil_of_length_eq_zero hl.symm;rw [e] at h;cases hb:bs.drop i with
    | nil=>rw [hb] at h; simp [akeys] at h; subst h; rfl
    | cons y ys=>rw [hb] at h; simp [akeys] at h
  | f::fs,i,b,hf,hl,h=>by
    obtain ⟨h1,h2,v,d,h3,h4,h5⟩:=hf 0 f rfl;rw [Nat.add_zero] at h2 h3;have hlt:i<as.length:=(List.getElem?_eq_some_iff.1 h3).1;have ea:as.drop i=v::as.drop (i+1):=by
      rw [List.drop_eq_getElem_cons hlt];rw [List.getElem?_eq_getElem hlt] at h3;cases h3; rfl
    rw [ea] at h;cases hb:bs.drop i with
    | nil=>rw [hb] at h; simp [akeys] at h
    | cons y ys=>
      rw [hb] at h;have hltb:i<bs.length:=by
        have:=congrArg List.length hb;rw [List.length_drop,List.length_cons] at this;omega
      have eb:=List.drop_eq_getElem_cons hltb;rw [hb] at eb;have ey:bs[i]?=Ob y:=by
        rw [List.getElem?_eq_getElem hltb];have:=(List.cons.inj eb).1;rw [this]
      have eys:ys=bs.drop (i+1):=(List.cons.inj eb).2;subst eys;simp only [akeys] at h;have hag:=zpI h4 h5;simp only [zdp,if_pos h1,h2];have pa:apart T f.type as i=Ob v:=by unfold apart; rw [hag]; exact h3
      have pb:apart T f.type bs i=Ob y:=by unfold apart; rw [hag]; exact ey
      rw [pa,pb];simp only;cases hk:zhS v y with
      | none=>rw [hk] at h; cases h
      | some q=>
        rw [hk] at h;have he:aeq T 1 f.type v y=Ob q:=by
          rcases h5 with ⟨j,n,rfl,rfl⟩ | ⟨c,rfl,rfl⟩
          · cases y<;>simp [zhS] at hk;simp only [aeq,h4];obtain ⟨rfl,rfl⟩:=hk;simp
          · cases y<;>simp [zhS] at hk;simp only [aeq,h4];subst hk;rfl
        rw [he];cases q with
        | false=>exact h
        | true=>
          simp only;refine znj fs (i+1) (fun j g hg=>?_) ?_ h
          · have:=hf (j+1) g (by simpa using hg);rw [show i+1+j=i+(j+1) by omega];exact this
          · rw [ea] at hl;simpa using hl
theorem zuo {t:TypeId} {fs:Array Field} {as bs:List zb} {b:Bool} (hu:T.und t=Ob (.struct fs)) (hf:zfM T 0 fs.toList as=Od) (hs:((T.types.get t).map (·.stood)).getD Od=Oc) (h:akeys as bs=Ob b):aeq T 2 t (.agg as) (.agg bs)=Ob b:=by
 obtain ⟨h1,h2⟩:=zoK hf;have:=znj (T:=T) (as:=as) (bs:=bs) fs.toList 0 (b:=b) (λj f hj=>by
  obtain ⟨a,e,v,d,c1,c2,c3⟩:=h2 j f hj;exact ⟨a,e,v,d,by rw [Nat.zero_add]; exact c1,c2,c3⟩) (by rw [List.drop_zero]; exact h1.symm) (by rw [List.drop_zero,List.drop_zero]; exact h)
 simp only [aeq,hu,hs,Bool.false_eq_true,if_false];exact this
theorem zlr:∀ {as bs:List zb} {as' bs':List Value},zcB V as as'->zcB V bs bs'->akeys as bs=Ob Od->as'.length=bs'.length/\∀ n,(bs'.zip as').all (λp=>Instr.sameBits n p.1 p.2)=Od
 | [],[],as',bs',h1,h2,_=>by
  have e1:as'=[]:=List.eq_nil_of_length_eq_zero h1.1.symm;have e2:bs'=[]:=List.eq_nil_of_length_eq_zero h2.1.symm;subst e1 e2;exact ⟨rfl,λ_=>rfl⟩
 | [],_::_,_,_,_,_,h=>by simp [akeys] at h
 | _::_,[],_,_,_,_,h=>by simp [akeys] at h
 | a::as,b::bs,as',bs',h1,h2,h=>by
  cases as' with
  | nil=>have:=h1.1; simp at this
  | cons a' as'=>
   cases bs' with
   | nil=>have:=h2.1; simp at this
   | cons b' bs'=>
    have r1:zag V a a':=h1.2 0 a a' rfl rfl;have r2:zag V b b':=h2.2 0 b b' rfl rfl;have l1:zcB V as as':=⟨by have:=h1.1; simpa using this,λi v v' hv hv'=>h1.2 (i+1) v v' (by simpa using hv) (by simpa using hv')⟩;have l2:zcB V bs bs':=⟨by have:=h2.1; simpa using this,λi v v' hv hv'=>h2.2 (i+1) v v' (by simpa using hv) (by simpa using hv')⟩;simp only [akeys] at h;cases hk:zhS a b with
    | none=>rw [hk] at h; cases h
    | some q=>
     rw [hk] at h;cases q with
     | false=>cases h
     | true=>
      obtain ⟨i1,i2⟩:=zlr l1 l2 h;refine ⟨by simp [i1],λn=>?_⟩;simp only [List.zip_cons_cons,List.all_cons,i2 n,Bool.and_true];cases a<;>cases b<;>simp [zhS] at hk
      ·cases r1; cases r2; subst hk; cases n<;>simp [Instr.sameBits]
      ·cases r1; cases r2; obtain ⟨rfl,rfl⟩:=hk; cases n<;>simp [Instr.sameBits]
include ok in
theorem ziP {t:TypeId} {k:zb} {k':Value} (h1:zag V k k') (hd:zzk T t k) {es:List (zb×zb)} {ces:List MapEntry} {r:Option (Nat×zb)} (hl:ces.length=es.length)
    (he:∀ (i:Nat) (k v:zb),es[i]?=Ob (k,v)->∃ e:MapEntry,ces[i]?=Ob e/\zag V k e.key/\zag V v e.val) (h:afind k es 0=Ob r) :
    (r=Oe/\(Instr.findKey t k' ces).run P w=.ok Oe w)\/(∃ m v v' e,r=Ob (m,v)/\m<es.length/\(Instr.findKey t k' ces).run P w=.ok (Ob (m,v')) w/\zag V v v'/\ces[m]?=Ob e/\Instr.sameBits 10000 e.key k'=Od):=by
  cases hd with
  | s hu hd=>
    have hu':=ok.und hu;rcases zrM h1 hd es ces 0 r hl he h with ⟨rfl,h2⟩ | ⟨m,v,v',rfl,_,h3,h2,h4⟩
    · exact .inl ⟨rfl,by simp only [Instr.findKey,Sem.run_bind,zh hu',Result.andThen_ok,h2,Sem.run_pure]⟩
    · obtain ⟨e,g1,_,g2⟩:=zjq ces 0 m v' h2;exact .inr ⟨m,v,v',e,rfl,by omega,by simp only [Instr.findKey,Sem.run_bind,zh hu',Result.andThen_ok,h2,Sem.run_pure],h4,by simpa using g1,zk6 h1 hd g2⟩
  | f hu hf hs=>
    rename_i fs cs;have hu':=ok.und hu;obtain ⟨kc,rfl,hkc⟩:=h1.agg_inv
    -- one after the other
    have asks:∀ (es:List (zb×zb)) (ces:List MapEntry) (i:Nat) (r:Option (Nat×zb)),ces.length=es.length->(∀ (i:Nat) (k v:zb),es[i]?=Ob (k,v)->∃ e:MapEntry,ces[i]?=Ob e/\zag V k e.key/\zag V v e.val) ->
        afind (.agg cs) es i=Ob r->(r=Oe/\(Instr.findAsking t (.agg kc) ces i).run P w=.ok Oe w)\/(∃ m v v' e,r=Ob (m,v)/\i<=m/\m<i+es.length/\(Instr.findAsking t (.agg kc) ces i).run P w=.ok (Ob (m,v')) w/\zag V v v'/\ces[m-i]?=Ob e/\Instr.sameBits 10000 e.key (.agg kc)=Od):=by
      intro es;induction es with
      | nil=>
        intro ces i r hl _ h;have:ces=[]:=List.eq_nil_of_length_eq_zero hl;subst this;simp [afind] at h;exact .inl ⟨h.symm,rfl⟩
      | cons p es ih=>
        obtain ⟨k2,v2⟩:=p;intro ces i r hl he h;cases ces with
        | nil=>simp at hl
        | cons c ces=>
          obtain ⟨e,h2,h3,h4⟩:=he 0 k2 v2 rfl;simp at h2; subst h2;simp only [afind] at h;cases hk:akey (.agg cs) k2 with
          | none=>simp [hk] at h
          | some b=>
            obtain ⟨bs,rfl,hk2⟩:∃ bs,k2=.agg bs/\akeys cs bs=Ob b:=by
              cases k2<;>simp [akey,zhS] at hk;exact ⟨_,rfl,hk⟩
            have heq:=zrI ok 2 t (.agg cs) (.agg bs) (.agg kc) c.key b 10000 J h1 h3 (zuo hu hf hs hk2) (w:=w);have heq:(Op.equal t (.agg kc) c.key).run P w=.ok b w:=heq;simp only [Instr.findAsking,Sem.run_bind,heq,Result.andThen_ok];cases b with
            | true=>
              simp [hk] at h;obtain ⟨bc,hbc,hbl⟩:=h3.agg_inv;obtain ⟨s1,s2⟩:=zlr hkc hbl hk2;refine .inr ⟨i,v2,c.val,c,h.symm,Nat.le_refl _,by simp,rfl,h4,by simp, ?_⟩;rw [hbc];show Instr.sameBits (9999+1) (.agg bc) (.agg kc)=Od;simp only [Instr.sameBits,Bool.and_eq_true,beq_iff_eq];exact ⟨by simpa using s1.symm,s2 9999⟩
            | false=>
              simp only [hk] at h;rcases ih ces (i+1) r (by simpa using hl) (λj a b hj=>by have:=he (j+1) a b (by simpa using hj); simpa using this) h with ⟨a,b⟩ | ⟨m,v,v',e,a,b,c',d',e',f',g'⟩
              · exact .inl ⟨a,b⟩
              · exact .inr ⟨m,v,v',e,a,by omega,by simp; omega,d',e',by rw [show m-i=(m-(i+1))+1 by omega]; simpa using f',g'⟩
    have hnow:∀ r',(r'=Oe\/r'≠Oe)->(Instr.findAsking t (.agg kc) ces 0).run P w=.ok r' w->(Instr.findKey t (.agg kc) ces).run P w=.ok r' w:=by
      intro r' _ hr';simp only [Instr.findKey,Sem.run_bind,zh hu',Result.andThen_ok];cases ces with
      | nil=>exact hr'
      | cons c ces=>
        have:Instr.findNow (.struct fs) (.agg kc) (c::ces) 0=Oe:=by simp [Instr.findNow,Instr.sameNow]
        rw [this];exact hr'
    rcases asks es ces 0 r hl he h with ⟨rfl,h2⟩ | ⟨m,v,v',e,rfl,_,h3,h2,h4,h5,h6⟩
    · exact .inl ⟨rfl,hnow _ (.inl rfl) h2⟩
    · exact .inr ⟨m,v,v',e,rfl,by omega,hnow _ (.inr Ol) h2,h4,by simpa using h5,h6⟩
theorem zif (n:Nat) {t:TypeId} {d:TypeDesc} {k:zb} {k':Value} (hu:P.underlying t=Ob d) (h1:zag V k k') (hd:Scal d k) (b:Bool) :
 (Instr.checkKey b (n+1) t k').run P w=.ok () w:=by
 rcases hd with ⟨j,n,rfl,rfl⟩ | ⟨c,rfl,rfl⟩
 . cases h1; simp only [Instr.checkKey,Sem.run_bind,zh hu,Result.andThen_ok,Sem.run_pure]
 . cases h1; simp only [Instr.checkKey,Sem.run_bind,zh hu,Result.andThen_ok,Sem.run_pure]
theorem zls {A:Type} {f:A->PUnit->Sem (ForInStep PUnit)}:∀ (l:List A),(∀ x∈l,(f x ⟨⟩).run P w=.ok (.yield ⟨⟩) w)->(forIn l PUnit.unit f:Sem PUnit).run P w=.ok ⟨⟩ w
 | [],_=>by simp
 | x::l,h=>by
  rw [List.forIn_cons];simp only [Sem.run_bind,h x (List.mem_cons_self ..),Result.andThen_ok];exact zls l λy hy=>h y (List.mem_cons_of_mem _ hy)
include ok in
theorem zeb {t:TypeId} {k:zb} {k':Value} (h1:zag V k k') (hd:zzk T t k) (b:Bool) :
    (Instr.checkKey b 10000 t k').run P w=.ok () w:=by
  cases hd with
  | s hu hd=>exact zif 9999 (ok.und hu) h1 hd b
  | f hu hf hs'=>
    rename_i fs cs;obtain ⟨kc,rfl,hkc⟩:=h1.agg_inv;obtain ⟨g1,g2⟩:=zoK hf;show (Instr.checkKey b (9998+1+1) t (.agg kc)).run P w=_;rw [Instr.checkKey];simp only [Sem.run_bind,zh (ok.und hu),Result.andThen_ok];rw [← Array.forIn_toList];have key:∀ {f:Field->PUnit->Sem (ForInStep PUnit)},(∀ x∈fs.toList,(f x ⟨⟩).run P w=.ok (.yield ⟨⟩) w)->((forIn fs.toList PUnit.unit f:Sem PUnit).run P w).andThen (λa w'=>(pure ():Sem Unit).run P w')=.ok () w:=λhh=>by
      rw [zls fs.toList hh];rfl
    refine key λf hfm=>?_;obtain ⟨j,hj,hfe⟩:=List.getElem_of_mem hfm;obtain ⟨a,e,v,d,c1,c2,c3⟩:=g2 j f (by rw [List.getElem?_eq_getElem hj,hfe]);have hap:apart T f.type cs f.offset=Ob v:=by
      unfold apart;rw [zpI c2 c3,e,Nat.zero_add];exact c1
    obtain ⟨v',hv1,hv2⟩:=zkd ok (w:=w) hkc hap;rw [if_pos a];simp only [Sem.run_bind,hv1,Result.andThen_ok,zif 9998 (ok.und c2) hv2 c3 b];rfl
theorem znk (hr:H0 base V h w) {r:Nat} {l:Loc} {es:List (zb×zb)} (hb:V r=Ob l) (hg:h.get r=Ob (.mp es)) :
 base<=l.c/\∃ (ces:Array MapEntry) (clk:Nat),w.heap[l.c]?=Ob (.map ces clk)/\(ces.size=es.length/\clk=ces.size/\∀ (i:Nat) (e:MapEntry),ces[i]?=Ob e->e.born=i)/\∀ (i:Nat) (k v:zb),es[i]?=Ob (k,v)->∃ e:MapEntry,ces[i]?=Ob e/\zag V k e.key/\zag V v e.val:=by
 have hblk:=hr.blk r l hb;rw [hg] at hblk;exact hblk
theorem znl {ces:Array MapEntry} {k v:Value} {n:Nat} (hc:n=ces.size) (hb:∀ (i:Nat) (e:MapEntry),ces[i]?=Ob e->e.born=i) (i:Nat) (e:MapEntry) (h:(ces.push { key:=k,val:=v,born:=n })[i]?=Ob e):e.born=i:=by
 rw [Array.getElem?_push] at h;split at h
 . rename_i q; cases h; rw [q]; exact hc
 . exact hb i e h
theorem zl5 {ces:Array MapEntry} {j:Nat} {f:MapEntry->MapEntry} (hf:∀ e,(f e).born=e.born) (hb:∀ (i:Nat) (e:MapEntry),ces[i]?=Ob e->e.born=i) (i:Nat) (e:MapEntry) (h:(ces.modify j f)[i]?=Ob e):e.born=i:=by
 rw [Array.getElem?_modify] at h;split at h
 . obtain ⟨e',h1,rfl⟩:=Option.map_eq_some_iff.1 h;rw [hf]; exact hb i e' h1
 . exact hb i e h
theorem zd9 (w:World) (r:Nat) (ces:Array MapEntry) (clk:Nat) (hg:w.heap[r]?=Ob (.map ces clk)):(getObj r).run P w=.ok (.map ces clk) w:=by
 simp [getObj,Sem.run,hg]
include ok in
theorem zrN {t:TypeId} {x ix v:zb} {x' ix':Value} {b:Bool} (hr:H0 base V h w) (hx:zag V x x') (hi:zag V ix ix') (hl:alookup T t x ix b h=Ob v) :
    ∃ v',(Instr.lookup t x' ix' b).run P w=.ok v' w/\zag V v v':=by
  unfold alookup at hl;split at hl
  case h_2=>cases hl
  rename_i key elem hu;split at hl
  case isFalse=>cases hl
  rename_i hk;have hkd:=zhV hk;have fin:∀ (es:List (zb×zb)) (ces:Array MapEntry),ces.size=es.length->(∀ (i:Nat) (k v:zb),es[i]?=Ob (k,v)->∃ e:MapEntry,ces[i]?=Ob e/\zag V k e.key/\zag V v e.val) ->
      (match afind ix es 0 with
        | some (Ob (_,v))=>Ob (if b then .tuple [v,.bool Od] else v)
        | some Oe=>match zeJ T elem with
          | some z=>Ob (if b then .tuple [z,.bool Oc] else z)
          | none=>Oe
        | none=>Oe)=Ob v ->
      ∃ v',(do
        Instr.checkKey ces.isEmpty 10000 key ix'
        let (v,ok) ← match ← Instr.findKey key ix' ces.toList with
          | some (_,v)=>pure (v,Od)
          | none=>pure (← zeroValue elem,Oc)
        pure (if b then .tuple #[v,.bool ok] else v):Sem Value).run P w=.ok v' w/\zag V v v':=by
    intro es ces hsz hes hf;cases ha:afind ix es 0 with
    | none=>simp [ha] at hf
    | some r=>
      rcases ziP ok (w:=w) hi hkd (ces:=ces.toList) (by simpa using hsz) (λi k v hh=>by have:=hes i k v hh; simpa using this) ha with ⟨rfl,h2⟩ | ⟨m,u,u',_,rfl,_,h2,h3,_,_⟩
      · simp only [ha] at hf;cases hz:zeJ T elem with
        | none=>simp [hz] at hf
        | some z=>
          obtain ⟨j,zv,hj,hjz,hzv⟩:=ok.zero hz;have hzr:=zeo V zv z hzv;simp only [hz,Option.some.injEq] at hf;simp only [Sem.run_bind,zeb ok hi hkd,Result.andThen_ok,h2,Sem.run_pure,zdg hj hjz];refine ⟨_,rfl, ?_⟩;subst hf;cases b
          · exact hzr
          · exact .tuple' (.cons hzr (.cons (.bool Oc) (.nil _)))
      · simp only [ha,Option.some.injEq] at hf;simp only [Sem.run_bind,zeb ok hi hkd,Result.andThen_ok,h2,Sem.run_pure];refine ⟨_,rfl, ?_⟩;subst hf;cases b
        · exact h3
        · exact .tuple' (.cons h3 (.cons (.bool Od) (.nil _)))
  split at hl
  case h_2=>cases hl
  rename_i es hes;split at hes
  · cases hes;cases hx;obtain ⟨v',h1,h2⟩:=fin [] #[] rfl Ol hl;refine ⟨v', ?_,h2⟩;simp only [Instr.lookup,Sem.run_bind,zh (ok.und hu),Result.andThen_ok,Sem.run_pure] at h1 ⊢;exact h1
  · split at hes
    case h_2=>cases hes
    rename_i r es' hg;cases hes;cases hx with
    | map _ l hb=>
    obtain ⟨_,ces,clk,h1,⟨h2,_⟩,h3⟩:=znk hr hb hg;obtain ⟨v',h4,h5⟩:=fin es ces h2 h3 hl;refine ⟨v', ?_,h5⟩;simp only [Instr.lookup,Sem.run_bind,zh (ok.und hu),Result.andThen_ok,zd9 w l.c ces clk h1,Sem.run_pure] at h4 ⊢;exact h4
  · cases hes
theorem zpJ {es:List (zb×zb)} {ces:Array MapEntry} {n i:Nat} {k v a b:zb} {k' v':Value} (h2:ces.size=es.length) (hk:zag V k k') (hv:zag V v v') (h3:∀ (i:Nat) (k v:zb),es[i]?=Ob (k,v)->∃ e:MapEntry,ces[i]?=Ob e/\zag V k e.key/\zag V v e.val) (hh:(es++[(k,v)])[i]?=Ob (a,b)) :
 ∃ e:MapEntry,(ces.push { key:=k',val:=v',born:=n })[i]?=Ob e/\zag V a e.key/\zag V b e.val:=by
 by_cases hi:i<es.length
 . rw [List.getElem?_append_left hi] at hh;obtain ⟨e,he,h5,h6⟩:=h3 i a b hh;refine ⟨e, ?_,h5,h6⟩;rw [Array.getElem?_push,if_neg J]; exact he
 . rw [List.getElem?_append_right J] at hh;have hi2:i-es.length=0:=by
    have:=(List.getElem?_eq_some_iff.1 hh).1;simp at this; omega
   rw [hi2] at hh;simp at hh;obtain ⟨rfl,rfl⟩:=hh;refine ⟨{ key:=k',val:=v',born:=n }, ?_,hk,hv⟩;rw [Array.getElem?_push,if_pos J]
include ok in
theorem zjr {t:TypeId} {m k v:zb} {m' k' v':Value} {h':za} (hr:H0 base V h w) (hm:zag V m m') (hk:zag V k k') (hv:zag V v v') (hl:zbN T t m k v h=Ob h') :
    UOk P base V h w (Instr.mapUpdate t m' k' v') h':=by
  unfold zbN at hl;split at hl
  case h_2=>cases hl
  rename_i key elem r hu;split at hl
  case isFalse=>cases hl
  rename_i hpk;have hkd:=zhV hpk;split at hl
  case h_2=>cases hl
  rename_i es hg;cases hm with
  | map _ l hb=>
  obtain ⟨hbase,ces,clk,h1,⟨h2,hck,hbn⟩,h3⟩:=znk hr hb hg;have ho:Owns h r:=by unfold Owns; rw [hg]; trivial
  have hlc:l.c<w.heap.size:=hr.clt r l hb;cases ha:afind k es 0 with
  | none=>simp [ha] at hl
  | some q=>
    rcases ziP ok (w:=w) hk hkd (ces:=ces.toList) (by simpa using h2) (λi k v hh=>by have:=h3 i k v hh; simpa using this) ha with ⟨rfl,h4⟩ | ⟨i,u,u',e,rfl,hi,h4,_,he,hbits⟩
    · simp [ha] at hl;subst hl;obtain ⟨a1,a2⟩:=zfO hr hb ho (.mp (es++[(k,v)])) { w with heap:=w.heap.setIfInBounds l.c (.map (ces.push { key:=k',val:=v',born:=clk }) (clk+1)) } Ol
        (λj hj=>by simp [Array.getElem?_setIfInBounds,Ne.symm hj]) rfl rfl rfl
        ⟨hbase,ces.push { key:=k',val:=v',born:=clk },clk+1,by simp [Array.getElem?_setIfInBounds,hlc],⟨by simp [h2],by simp [hck],znl hck hbn⟩,λi a b hh=>zpJ h2 hk hv h3 hh⟩ (by rw [hg]; simp)
      refine ⟨_,V, ?_,a1,a2⟩;simp only [Instr.mapUpdate,Sem.run_bind,zh (ok.und hu),Result.andThen_ok,zd9 w l.c ces clk h1,zeb ok hk hkd,h4,Sem.run_pure,setObj,Sem.run,h1]
    · simp [ha] at hl;subst hl;simp only [Array.getElem?_toList] at he;obtain ⟨a1,a2⟩:=zfO hr hb ho (.mp (es.set i (k,v))) { w with heap:=w.heap.setIfInBounds l.c (.map (ces.modify i λe=>{ e with key:=k',val:=v' }) clk) } Ol
        (λj hj=>by simp [Array.getElem?_setIfInBounds,Ne.symm hj]) rfl rfl rfl
        ⟨hbase,ces.modify i λe=>{ e with key:=k',val:=v' },clk,by simp [Array.getElem?_setIfInBounds,hlc],⟨by simp [h2],by simp [hck],zl5 (λ_=>rfl) hbn⟩,λj a b hh=>by
          rw [List.getElem?_set] at hh;rw [Array.getElem?_modify];by_cases hij:i=j
          · subst hij;rw [if_pos rfl,if_pos hi] at hh;simp at hh;obtain ⟨rfl,rfl⟩:=hh;exact ⟨{ e with key:=k',val:=v' },by rw [if_pos rfl,he]; rfl,hk,hv⟩
          · rw [if_neg hij] at hh ⊢;exact h3 j a b hh⟩ (by rw [hg]; simp)
      refine ⟨_,V, ?_,a1,a2⟩;simp only [Instr.mapUpdate,Sem.run_bind,zh (ok.und hu),Result.andThen_ok,zd9 w l.c ces clk h1,zeb ok hk hkd,h4,Sem.run_pure,he,Option.map_some,Option.getD_some,Instr.keyThatStays,hbits,if_true,setObj,Sem.run,h1]
theorem zpK {k:zb}:∀ {es:List (zb×zb)} {n m:Nat} {v:zb},afind k es n=Ob (Ob (m,v))->n<=m/\∃ k0,es[m-n]?=Ob (k0,v)
 | (k0,v0)::es,n,m,v,h=>by
  simp only [afind] at h;split at h
  . cases h; exact ⟨Nat.le_refl _,k0,by simp⟩
  . obtain ⟨h1,k1,h2⟩:=zpK h;refine ⟨by omega,k1, ?_⟩;rw [show m-n=(m-(n+1))+1 by omega]; exact h2
  . cases h
include ok in
theorem zoL {t:TypeId} {m k v:zb} {m' k':Value} {h':za} (hr:H0 base V h w) (hm:zag V m m') (hk:zag V k k') (hl:zcz T t m k h=Ob (v,h')) :
    VOk P base V h w (Instr.mapEntry t m' k') v h':=by
  unfold zcz at hl;split at hl
  case h_2=>cases hl
  rename_i key elem r hu;split at hl
  case isFalse=>cases hl
  rename_i hpk;have hkd:=zhV hpk;split at hl
  case h_2=>cases hl
  rename_i es hg;cases hm with
  | map _ l hb=>
  obtain ⟨hbase,ces,clk,h1,⟨h2,hck,hbn⟩,h3⟩:=znk hr hb hg;have ho:Owns h r:=by unfold Owns; rw [hg]; trivial
  have hlc:l.c<w.heap.size:=hr.clt r l hb;cases ha:afind k es 0 with
  | none=>simp [ha] at hl
  | some q=>
    rcases ziP ok (w:=w) hk hkd (ces:=ces.toList) (by simpa using h2) (λi k v hh=>by have:=h3 i k v hh; simpa using this) ha with ⟨rfl,h4⟩ | ⟨i,u,u',e,rfl,hi,h4,hv,he,hbits⟩
    · cases hz:zeJ T elem with
      | none=>simp [ha,hz] at hl
      | some z=>
        obtain ⟨j,zv,hj,hjz,hzv⟩:=ok.zero hz;have hzr:=zeo V zv z hzv;simp only [ha,hz,Option.some.injEq,Prod.mk.injEq] at hl;obtain ⟨rfl,rfl⟩:=hl;obtain ⟨a1,a2⟩:=zfO hr hb ho (.mp (es++[(k,z)])) { w with heap:=w.heap.setIfInBounds l.c (.map (ces.push { key:=k',val:=zv,born:=clk }) (clk+1)) } Ol
          (λj hj=>by simp [Array.getElem?_setIfInBounds,Ne.symm hj]) rfl rfl rfl
          ⟨hbase,ces.push { key:=k',val:=zv,born:=clk },clk+1,by simp [Array.getElem?_setIfInBounds,hlc],⟨by simp [h2],by simp [hck],znl hck hbn⟩,λi a b hh=>zpJ h2 hk hzr h3 hh⟩ (by rw [hg]; simp)
        refine ⟨_,_,V, ?_,.tuple' (.cons hzr (.cons (.int _ _) (.nil _))),a1,a2⟩;simp only [Instr.mapEntry,Sem.run_bind,zh (ok.und hu),Result.andThen_ok,zd9 w l.c ces clk h1,zeb ok hk hkd,h4,zdg hj hjz,Sem.run_pure,setObj,Sem.run,h1,goInt,← h2,hck]
    · simp only [ha,Option.some.injEq,Prod.mk.injEq] at hl;obtain ⟨rfl,rfl⟩:=hl;simp only [Array.getElem?_toList] at he;obtain ⟨_,k0,hk0⟩:=zpK ha;obtain ⟨e',he',_,hue⟩:=h3 i k0 u hk0;rw [he] at he';cases he';obtain ⟨a1,a2⟩:=zfO hr hb ho (.mp (es.set i (k,u))) { w with heap:=w.heap.setIfInBounds l.c (.map (ces.modify i λe=>{ e with key:=k' }) clk) } Ol
        (λj hj=>by simp [Array.getElem?_setIfInBounds,Ne.symm hj]) rfl rfl rfl
        ⟨hbase,ces.modify i λe=>{ e with key:=k' },clk,by simp [Array.getElem?_setIfInBounds,hlc],⟨by simp [h2],by simp [hck],zl5 (λ_=>rfl) hbn⟩,λj a b hh=>by
          rw [List.getElem?_set] at hh;rw [Array.getElem?_modify];by_cases hij:i=j
          · subst hij;rw [if_pos rfl,if_pos hi] at hh;simp at hh;obtain ⟨rfl,rfl⟩:=hh;exact ⟨{ e with key:=k' },by rw [if_pos rfl,he]; rfl,hk,hue⟩
          · rw [if_neg hij] at hh ⊢;exact h3 j a b hh⟩ (by rw [hg]; simp)
      refine ⟨_,_,V, ?_,.tuple' (.cons hv (.cons (.int _ _) (.nil _))),a1,a2⟩;simp only [Instr.mapEntry,Sem.run_bind,zh (ok.und hu),Result.andThen_ok,zd9 w l.c ces clk h1,zeb ok hk hkd,h4,Sem.run_pure,he,Option.map_some,Option.getD_some,Instr.keyThatStays,hbits,if_true,setObj,Sem.run,h1,goInt,hbn i e he]
theorem zl6 {t:TypeId} {m s x:zb} {m' s' x':Value} {h':za} (hr:H0 base V h w) (hm:zag V m m') (hs:zag V s s') (hx:zag V x x') (hl:zbn m s x h=Ob h') :
 UOk P base V h w (Instr.entryStore t m' s' x') h':=by
 unfold zbn at hl;split at hl
 case h_2=>cases hl
 rename_i r kk i;split at hl
 case h_2=>cases hl
 rename_i es hg;split at hl
 case h_2=>cases hl
 rename_i k v0 hi;cases hl;cases hm with
 | map _ l hb=>
 cases hs;obtain ⟨hbase,ces,clk,h1,⟨h2,hck,hbn⟩,h3⟩:=znk hr hb hg;have ho:Owns h r:=by unfold Owns; rw [hg]; trivial
 have hlc:l.c<w.heap.size:=hr.clt r l hb;have hil:=(List.getElem?_eq_some_iff.1 hi).1;obtain ⟨e,he,hk,_⟩:=h3 i k v0 hi;have hfi:ces.findIdx? (λe=>(e.born:Int)==(Int.ofNat i:Int))=Ob i:=by
  rw [Array.findIdx?_eq_some_iff_getElem];have hlt:i<ces.size:=J
  refine ⟨hlt, ?_,λj hj=>?_⟩
  . have:=hbn i _ (Array.getElem?_eq_getElem hlt);simp [this]
  . have:=hbn j _ (Array.getElem?_eq_getElem (by omega:j<ces.size));simp [this]; omega
 obtain ⟨a1,a2⟩:=zfO hr hb ho (.mp (es.set i (k,x))) { w with heap:=w.heap.setIfInBounds l.c (.map (ces.modify i λe=>{ e with val:=x' }) clk) } Ol
  (λj hj=>by simp [Array.getElem?_setIfInBounds,Ne.symm hj]) rfl rfl rfl
  ⟨hbase,ces.modify i λe=>{ e with val:=x' },clk,by simp [Array.getElem?_setIfInBounds,hlc],⟨by simp [h2],by simp [hck],zl5 (λ_=>rfl) hbn⟩,λj a b hh=>by
   rw [List.getElem?_set] at hh;rw [Array.getElem?_modify];by_cases hij:i=j
   . subst hij;rw [if_pos rfl,if_pos hil] at hh;simp at hh;obtain ⟨rfl,rfl⟩:=hh;exact ⟨{ e with val:=x' },by rw [if_pos rfl,he]; rfl,hk,hx⟩
   . rw [if_neg hij] at hh ⊢;exact h3 j a b hh⟩ (by rw [hg]; simp)
 refine ⟨_,V, ?_,a1,a2⟩;simp only [Instr.entryStore,Sem.run_bind,zd9 w l.c ces clk h1,Result.andThen_ok,asInt,asIntOf,Sem.run_pure,hfi,setObj,Sem.run,h1]
end
section
variable {T:Tab} {P:Program} (ok:T.Ok P) {base:Nat} {V:Emb} {h:za} {w:World}
include ok in
theorem zzl {argTypes:Array TypeId} {ty t:TypeId} {x v:zb} {x':Value} (hr:H0 base V h w) (ht:argTypes[0]?=Ob t) (hx:zag V x x') (hl:alen T t x h=Ob v) :
 ∃ v',(Builtin.len_ argTypes ty #[x']).run P w=.ok v' w/\zag V v v':=by
 unfold alen at hl;split at hl
 . rename_i hu;cases hl; cases hx;exact ⟨_,by simp [Builtin.len_,ht,zh (ok.und hu),goInt],.int _ _⟩
 . rename_i hu;cases hl; cases hx;exact ⟨_,by simp [Builtin.len_,ht,zh (ok.und hu),goInt],.int _ _⟩
 . rename_i hu;cases hl;exact ⟨_,by simp [Builtin.len_,ht,zh (ok.und hu),goInt],.int _ _⟩
 . rename_i hu;cases hl; cases hx;exact ⟨_,by simp [Builtin.len_,ht,zh (ok.und hu),goInt],.int _ _⟩
 . rename_i r hu;split at hl
   case h_2=>cases hl
   rename_i es hg;cases hl;cases hx with
   | map _ l hb=>
   obtain ⟨_,ces,clk,h1,h2,_⟩:=znk hr hb hg;exact ⟨_,by simp [Builtin.len_,ht,zh (ok.und hu),zd9 w l.c ces clk h1,goInt,h2],.int _ _⟩
 . rename_i hu;cases hl; cases hx;exact ⟨_,by simp [Builtin.len_,ht,zh (ok.und hu),goInt],.int _ _⟩
 . cases hl
theorem zzm {argTypes:Array TypeId} {ty:TypeId} {xs:List zb} {xs':Array Value} {v:zb} (hx:zcB V xs xs'.toList) (hl:amax xs=Ob v) :
    ∃ v',(Builtin.max_ argTypes ty xs').run P w=.ok v' w/\zag V v v':=by
  unfold Builtin.max_;generalize xs'.toList=ys at hx;unfold amax at hl;split at hl
  · cases hl
  · rename_i k x rest;obtain ⟨y,ys',rfl,h1,h2⟩:=hx.cons_inv;simp only;clear hx;generalize hacc:zb.int k x=acc at hl h1;have hint:∃ k x,acc=.int k x:=⟨k,x,hacc.symm⟩;clear hacc k x;induction rest generalizing acc y ys' with
    | nil=>
      have:=h2.nil_inv;subst this;simp at hl;subst hl;exact ⟨y,rfl,h1⟩
    | cons r rest ih=>
      obtain ⟨z,ys2,rfl,h3,h4⟩:=h2.cons_inv;obtain ⟨k,x,rfl⟩:=hint;cases h1;rw [List.foldlM_cons] at hl;cases r<;>simp only [Option.bind_eq_bind,Option.bind_none,Zs] at hl<;>(try (cases hl; done));cases h3;rw [List.foldlM_cons];simp only [Builtin.max2,Sem.run_bind,Sem.run_pure,Result.andThen_ok];exact ih _ _ h4 _ hl (.int _ _) ⟨_,_,rfl⟩
  · cases hl
theorem zzn {argTypes:Array TypeId} {ty:TypeId} {xs:List zb} {xs':Array Value} {v:zb} (hx:zcB V xs xs'.toList) (hl:amin xs=Ob v) :
    ∃ v',(Builtin.min_ argTypes ty xs').run P w=.ok v' w/\zag V v v':=by
  unfold Builtin.min_;generalize xs'.toList=ys at hx;unfold amin at hl;split at hl
  · cases hl
  · rename_i k x rest;obtain ⟨y,ys',rfl,h1,h2⟩:=hx.cons_inv;simp only;clear hx;generalize hacc:zb.int k x=acc at hl h1;have hint:∃ k x,acc=.int k x:=⟨k,x,hacc.symm⟩;clear hacc k x;induction rest generalizing acc y ys' with
    | nil=>
      have:=h2.nil_inv;subst this;simp at hl;subst hl;exact ⟨y,rfl,h1⟩
    | cons r rest ih=>
      obtain ⟨z,ys2,rfl,h3,h4⟩:=h2.cons_inv;obtain ⟨k,x,rfl⟩:=hint;cases h1;rw [List.foldlM_cons] at hl;cases r<;>simp only [Option.bind_eq_bind,Option.bind_none,Zs] at hl<;>(try (cases hl; done));cases h3;rw [List.foldlM_cons];simp only [Builtin.min2,Sem.run_bind,Sem.run_pure,Result.andThen_ok];exact ih _ _ h4 _ hl (.int _ _) ⟨_,_,rfl⟩
  · cases hl
def zjs (P:Program) (base:Nat) (V:Emb) (h:za) (w:World) (s:Sem Next) (v:zb) (h':za):Prop:=
 ∃ nx v' w' V',s.run P w=.ok nx w'/\(nx=.value v'\/(nx=.skip/\v'=undef))/\zag V' v v'/\H0 base V' h' w'/\Trans V h w V' h' w'
theorem zjs.of_V {s:Sem Value} {v:zb} {h':za} (hv:VOk P base V h w s v h'):zjs P base V h w (do pure (.value (← s)):Sem Next) v h':=by
 obtain ⟨v',w',V',h1,h2,h3,h4⟩:=hv;exact ⟨.value v',v',w',V',by simp [h1],.inl rfl,h2,h3,h4⟩
theorem zjs.of_pure {s:Sem Value} {v:zb} (hr:H0 base V h w) (hv:∃ v',s.run P w=.ok v' w/\zag V v v'):zjs P base V h w (do pure (.value (← s)):Sem Next) v h:=by
 obtain ⟨v',h1,h2⟩:=hv;exact .of_V (.pure hr h1 h2)
theorem zjs.of_U {s:Sem Unit} {h':za} (hv:UOk P base V h w s h'):zjs P base V h w (do s; pure .skip:Sem Next) (.tuple []) h':=by
 obtain ⟨w',V',h1,h3,h4⟩:=hv;exact ⟨.skip,undef,w',V',by simp [h1],.inr ⟨rfl,rfl⟩,.tuple' (.nil _),h3,h4⟩
theorem zH {hh:za} {x:Option zb} {v:zb} {h':za} (e:zae hh x=Ob (.val v h')):x=Ob v/\h'=hh:=by
 cases x with
 | none=>cases e
 | some y=>cases e; exact ⟨rfl,rfl⟩
theorem za6 {x:Option (zb×za)} {v:zb} {h':za} (e:zfm x=Ob (.val v h')):x=Ob (v,h'):=by
 cases x with
 | none=>cases e
 | some y=>cases e; rfl
theorem zbO {x:Option za} {v:zb} {h':za} (e:zfn x=Ob (.val v h')):x=Ob h'/\v=.tuple []:=by
 cases x with
 | none=>cases e
 | some y=>cases e; exact ⟨rfl,rfl⟩
theorem zeM {hh:za} {x:Option zb} {f:zb} {as:List zb}:zae hh x≠Ob (.call f as):=by cases x<;>simp [zae]
theorem zg9 {x:Option (zb×za)} {f:zb} {as:List zb}:zfm x≠Ob (.call f as):=by cases x<;>simp [zfm]
theorem znm {x:Option za} {f:zb} {as:List zb}:zfn x≠Ob (.call f as):=by cases x<;>simp [zfn]
theorem zl7 {ev:Operand->zb} {cev:Operand->Value} (hev:∀ x,zag V (ev x) (cev x)) (o:Option Operand):zzj V (o.map ev) (o.map cev):=by
 cases o with
 | none=>exact .inl ⟨rfl,rfl⟩
 | some x=>exact .inr ⟨_,_,rfl,rfl,hev x⟩
theorem zjO {ev:Operand->zb} {cev:Operand->Value} (hev:∀ x,zag V (ev x) (cev x)) (xs:Array Operand):zcB V (xs.toList.map ev) (xs.map cev).toList:=by
 refine ⟨by simp,λi v v' hv hv'=>?_⟩;simp only [List.getElem?_map,Array.toList_map] at hv hv';cases hq:xs.toList[i]? with
 | none=>rw [hq] at hv; cases hv
 | some q=>rw [hq] at hv hv'; cases hv; cases hv'; exact hev q
theorem zlt {v:zb} {v':Value} (hr:H0 base V h w) (hn:V h.next=Oe) (hv:zag V v v') (hu:v≠.undef) (el:TypeId) :
 VOk P base V h w (do pure (.pointer (Ob (← newVar el v'))):Sem Value) (.ptr h.next 0) (h.push (.arr v.cells Oc)):=by
 have hc:=hv.cells hu;obtain ⟨a,b⟩:=zgm (cc:=v'.cells) hr hn (cells:=v.cells) (by rw [zpH (by rw [hc.1]; exact Nat.le_refl _)]; exact hc) (by rw [hc.1]; simp) el (w.alloc (.cells v'.cells el)) rfl rfl rfl rfl;exact ⟨.pointer (Ob ⟨w.heap.size,0,Oe⟩),_,_,by simp [newVar,newRow],.ptr h.next 0 ⟨w.heap.size,0,_⟩ (Emb.add_same _ _ _),a,b⟩
include ok in
theorem zzo {argTypes:Array TypeId} {ty t:TypeId} {x v:zb} {x':Value} (ht:argTypes[0]?=Ob t) (hx:zag V x x') (hl:acap T t x=Ob v) :
 ∃ v',(Builtin.cap_ argTypes ty #[x']).run P w=.ok v' w/\zag V v v':=by
 unfold acap at hl;split at hl
 . rename_i e hu;cases hl;cases hx;refine ⟨_, ?_,.int .i64 _⟩;simp [Builtin.cap_,ht,zh (ok.und hu),goInt]
 . rename_i e b off len es c hu;cases hl;cases hx with
   | slice _ _ _ _ _ l a ccap hb hlen hcap hoff=>
   have:=hcap c rfl;subst this;refine ⟨_, ?_,.int .i64 _⟩;simp [Builtin.cap_,ht,zh (ok.und hu),goInt]
 . cases hl
include ok in
theorem zqP {b:Builtin} {argTypes:Array TypeId} {ty:TypeId} {consts:Array Bool} {xs:List zb} {xs':Array Value} {v:zb} {h':za} (hr:H0 base V h w) (hn:h'.next≠h.next->V h.next=Oe) (hx:zcB V xs xs'.toList)
 (hl:abuiltin T b argTypes xs h=Ob (.val v h')):zjs P base V h w (builtin b argTypes ty consts xs') v h':=by
 unfold abuiltin at hl;split at hl
 . rename_i x;split at hl
   case h_2=>cases hl
   rename_i t ht;obtain ⟨hl2,rfl⟩:=zH hl;obtain ⟨y,ys,e,h1,h2⟩:=hx.cons_inv;have e2:xs'=#[y]:=by apply Array.ext'; rw [e,h2.nil_inv]
   subst e2;exact zjs.of_pure hr (zzl ok hr ht h1 hl2)
 . rename_i x;split at hl
   case h_2=>cases hl
   rename_i t ht;obtain ⟨hl2,rfl⟩:=zH hl;obtain ⟨y,ys,e,h1,h2⟩:=hx.cons_inv;have e2:xs'=#[y]:=by apply Array.ext'; rw [e,h2.nil_inv]
   subst e2;exact zjs.of_pure hr (zzo ok ht h1 hl2)
 . rename_i s x;have hl:=za6 hl;obtain ⟨y,ys,e,h1,h2⟩:=hx.cons_inv;obtain ⟨z,zs,e',h3,h4⟩:=h2.cons_inv;have e2:xs'=#[y,z]:=by apply Array.ext'; rw [e,e',h4.nil_inv]
   subst e2;exact .of_V (zrJ ok hr hn h1 h3 hl)
 . rename_i s x;have hl:=za6 hl;obtain ⟨y,ys,e,h1,h2⟩:=hx.cons_inv;obtain ⟨z,zs,e',h3,h4⟩:=h2.cons_inv;have e2:xs'=#[y,z]:=by apply Array.ext'; rw [e,e',h4.nil_inv]
   subst e2;exact .of_V (zwS ok hr h1 h3 hl)
 . obtain ⟨hl2,rfl⟩:=zH hl;exact zjs.of_pure hr (zzm hx hl2)
 . obtain ⟨hl2,rfl⟩:=zH hl;exact zjs.of_pure hr (zzn hx hl2)
 . cases hl
theorem zl8 {b:Builtin} {argTypes:Array TypeId} {xs:List zb} {f:zb} {as:List zb}:abuiltin T b argTypes xs h≠Ob (.call f as):=by
 unfold abuiltin;split
 . split
   . exact zeM
   . simp
 . split
   . exact zeM
   . simp
 . exact zg9
 . exact zg9
 . exact zeM
 . exact zeM
 . simp
include ok in
theorem zrO {o:Oper} {ev:Operand->zb} {cev:Operand->Value} {v:zb} {h':za} (hr:H0 base V h w) (hn:h'.next≠h.next->V h.next=Oe) (hev:∀ x,zag V (ev x) (cev x)) (hl:aop T ev h o.op=Ob (.val v h')) :
    zjs P base V h w (execOp cev o) v h':=by
  unfold execOp;cases hop:o.op<;>rw [hop] at hl<;>simp only [aop] at hl<;>(try (cases hl; done))
  case move x=>cases hl; exact ⟨_,_,w,V,rfl,.inl rfl,hev x,hr,.refl _ _ _⟩
  case assign x=>cases hl; exact ⟨_,_,w,V,rfl,.inl rfl,hev x,hr,.refl _ _ _⟩
  case pick c a b=>
    unfold zie at hl;split at hl
    · rename_i t hc;cases hl;have:=hev c;rw [hc] at this;generalize hcc:cev c=cc at this;cases this;refine ⟨.value (if t then cev a else cev b),_,w,V,by simp [asBool,hcc],.inl rfl, ?_,hr,.refl _ _ _⟩;cases t
      · exact hev b
      · exact hev a
    · cases hl
  case alloc elem=>
    unfold zgg at hl;split at hl
    case h_2=>cases hl
    rename_i z hz;cases hl;obtain ⟨j,zv,hj,hjz,hzv⟩:=ok.zero hz;have:=zlt (P:=P) hr (hn (by simp [za.next_push])) (zeo V zv z hzv) (zhu hzv) elem;obtain ⟨v',w',V',h1,h2,h3,h4⟩:=this;refine ⟨.value v',v',w',V', ?_,.inl rfl,h2,h3,h4⟩;simp only [Sem.run_bind] at h1;simp only [Instr.alloc,Sem.run_bind,zdg hj hjz,Result.andThen_ok,Sem.run_pure];simp only [Sem.run_pure] at h1;rw [h1]; rfl
  case box elem x=>
    unfold zj7 at hl;split at hl
    · cases hl
    · rename_i hne;cases hl;have:=zlt (P:=P) hr (hn (by simp [za.next_push])) (hev x) (λe=>hne e) elem;exact .of_V this
  case build t parts=>
    obtain ⟨hl2,rfl⟩:=zH hl;exact zjs.of_pure hr (zul ok hev parts hl2)
  case buildSlice t len parts=>
    exact .of_V (zl4 ok hr hn hev parts (za6 hl))
  case load t a=>
    obtain ⟨hl2,rfl⟩:=zH hl;exact .of_V (zwR ok hr (hev a) hl2)
  case store t a x=>
    obtain ⟨hl2,rfl⟩:=zbO hl;exact .of_U (zui ok hr (hev a) (hev x) hl2)
  case nilCheck x=>
    unfold zdC at hl;have hx:=hev x;split at hl
    · rename_i b off he;rw [he] at hx;cases hl;generalize hcc:cev x=cc at hx;have hx2:=hx;cases hx with
      | ptr _ _ l hb=>exact ⟨_,_,w,V,by simp only [hcc]; rfl,.inl rfl,hx2,hr,.refl _ _ _⟩
    · rename_i f a b he;rw [he] at hx;cases hl;generalize hcc:cev x=cc at hx;have hx2:=hx;cases hx with
      | func fn fn' f' c f2 c2 hfn hf hc hfs hcs=>
        rcases hfn with ⟨l,l',e,_⟩ | ⟨g,e,rfl⟩
        · cases e
        · exact ⟨_,_,w,V,by simp only [hcc]; rfl,.inl rfl,hx2,hr,.refl _ _ _⟩
    · rename_i f a b he;rw [he] at hx;cases hl;generalize hcc:cev x=cc at hx;have hx2:=hx;cases hx with
      | func fn fn' f' c f2 c2 hfn hf hc hfs hcs=>
        rcases hfn with ⟨l,l',e,rfl,_⟩ | ⟨g,e,rfl⟩
        · exact ⟨_,_,w,V,by simp only [hcc]; rfl,.inl rfl,hx2,hr,.refl _ _ _⟩
        · cases e
    · cases hl
  case binOp op t x y yt=>
    obtain ⟨hl2,rfl⟩:=zH hl;exact zjs.of_pure hr (zzi ok x y (hev x) (hev y) hl2)
  case unOp op t x=>
    obtain ⟨hl2,rfl⟩:=zH hl;exact zjs.of_pure hr (zAR (hev x) hl2)
  case convert src dst x=>
    obtain ⟨hl2,rfl⟩:=zH hl;exact zjs.of_pure hr (zqO ok (hev x) hl2)
  case makeInterface t x=>
    unfold zcV at hl;split at hl
    · cases hl
    · rename_i d hne hu;cases hl;refine zjs.of_pure hr ⟨.iface t (cev x), ?_,.iface _ _ _ (hev x)⟩;simp only [Instr.makeInterface,Sem.run_bind,zh (ok.und hu),Result.andThen_ok];cases d<;>first | rfl | (exact absurd rfl (hne _))
    · cases hl
  case typeAssert x xt a c=>
    obtain ⟨hl2,rfl⟩:=zH hl;obtain ⟨d,v,hu,hne,hx,rfl,e⟩:=zoE hl2;subst e;have hxv:=hev x;rw [hx] at hxv;generalize hcc:cev x=cc at hxv;cases hxv with
    | iface _ _ u' huv=>
    refine zjs.of_pure hr ⟨.tuple #[u',.bool Od], ?_,.tuple' (.cons huv (.cons (.bool _) (.nil _)))⟩;simp only [Instr.typeAssert,hcc,Sem.run_bind,zh (ok.und hu),Result.andThen_ok];cases d<;>first | (exact absurd rfl (hne _)) | (simp; rfl) | simp
  case makeFunc fn first captured=>
    unfold zdD at hl;split at hl
    · cases hl;rename_i f;refine zjs.of_pure hr ⟨_,rfl, ?_⟩;have h1:=zjO hev first
      have h2:=zjO hev captured;exact .func _ _ _ _ _ _ (.inr ⟨f,rfl,rfl⟩) (by rw [h1.1]; simp) (by rw [h2.1]; simp) (λi v v' a b=>h1.2 i v v' a (by simpa using b)) (λi v v' a b=>h2.2 i v v' a (by simpa using b))
    · cases hl
  case makeMap t r=>
    unfold ze4 at hl;split at hl
    case h_2=>cases hl
    rename_i k e n hu hn;cases hl;obtain ⟨a,b⟩:=zl1 hr (hn (by simp [za.next_push])) (.mp []) (.map #[] 0) (w.alloc (.map #[] 0)) 0 rfl rfl rfl rfl
      ⟨hr.base,#[],0,heap_alloc_new w _,⟨rfl,rfl,by simp⟩,by simp⟩
    refine .of_V ⟨.map (Ob w.heap.size),_,_, ?_,.map h.next ⟨w.heap.size,0,0⟩ (Emb.add_same _ _ _),a,b⟩;cases r with
    | none=>simp [Instr.makeMap]
    | some x=>
      simp only at hn;split at hn
      case h_2=>cases hn
      rename_i kk nn he;have hx:=hev x;rw [he] at hx;generalize hcc:cev x=cc at hx;cases hx;simp [Instr.makeMap,zh (ok.und hu),asInt,asIntOf,hcc]
  case makeSlice t l c=>
    exact .of_V (znh ok hr hn (hev l) (hev c) (za6 hl))
  case slice t x lo hi mx=>
    obtain ⟨hl2,rfl⟩:=zH hl;exact zjs.of_pure hr (zum ok (hev x) (zl7 hev lo) (zl7 hev hi) (zl7 hev mx) hl2)
  case fieldAddr s x f=>
    obtain ⟨hl2,rfl⟩:=zH hl;exact zjs.of_pure hr (znf ok (hev x) hl2)
  case field t x f=>
    obtain ⟨hl2,rfl⟩:=zH hl;exact zjs.of_pure hr (zuk ok (hev x) hl2)
  case indexAddr t x ix=>
    obtain ⟨hl2,rfl⟩:=zH hl;exact zjs.of_pure hr (zng ok (hev x) (hev ix) hl2)
  case index t x ix=>
    obtain ⟨hl2,rfl⟩:=zH hl;exact zjs.of_pure hr (zuj ok (hev x) (hev ix) hl2)
  case lookup t x ix b=>
    obtain ⟨hl2,rfl⟩:=zH hl;exact zjs.of_pure hr (zrN ok hr (hev x) (hev ix) hl2)
  case mapUpdate t m k x=>
    obtain ⟨hl2,rfl⟩:=zbO hl;exact .of_U (zjr ok hr (hev m) (hev k) (hev x) hl2)
  case insert t m k x=>
    obtain ⟨hl2,rfl⟩:=zbO hl;exact .of_U (zjr ok hr (hev m) (hev k) (hev x) hl2)
  case mapEntry t m k=>exact .of_V (zoL ok hr (hev m) (hev k) (za6 hl))
  case entryStore t m s x=>
    obtain ⟨hl2,rfl⟩:=zbO hl;exact .of_U (zl6 hr (hev m) (hev s) (hev x) hl2)
  case extract t i=>
    unfold zfN at hl;split at hl
    case h_2=>cases hl
    rename_i vs he;obtain ⟨hl2,rfl⟩:=zH hl;have hx:=hev t;rw [he] at hx;obtain ⟨cs',hc,hcs⟩:=hx.tuple_inv;obtain ⟨v',hv',hvv⟩:=hcs.at hl2;rw [Array.getElem?_toList] at hv';exact zjs.of_pure hr ⟨v',by simp [Instr.extract,hc,hv'],hvv⟩
  case call c=>
    unfold zc4 at hl;split at hl
    · rename_i b hc;have:=zqP ok (ty:=o.type) (consts:=c.args.map λ| .const _=>Od | _=>Oc) (xs':=c.args.map cev) hr hn (zjO hev c.args) hl;obtain ⟨nx,v',w',V',h1,h2⟩:=this;refine ⟨nx,v',w',V', ?_,h2⟩;simp only [resolve,hc,Sem.run_bind,Sem.run_pure,Result.andThen_ok,invoke];exact h1
    · cases hl
    · cases hl
theorem zc5 {o:Op} {ev:Operand->zb} {f:zb} {as:List zb} (hl:aop T ev h o=Ob (.call f as)) :
 ∃ c fo,o=.call c/\c.callee=.value fo/\f=ev fo/\as=c.args.toList.map ev:=by
 cases o<;>simp only [aop] at hl<;>(try (cases hl; done))<;>(try (exact absurd hl zeM))<;>(try (exact absurd hl zg9))<;>(try (exact absurd hl znm))
 case pick=>unfold zie at hl; split at hl<;>cases hl
 case alloc=>unfold zgg at hl; split at hl<;>cases hl
 case box=>unfold zj7 at hl; split at hl<;>cases hl
 case nilCheck=>unfold zdC at hl; split at hl<;>cases hl
 case makeInterface=>unfold zcV at hl; split at hl<;>cases hl
 case makeFunc=>unfold zdD at hl; split at hl<;>cases hl
 case makeMap=>unfold ze4 at hl; split at hl<;>cases hl
 case extract=>unfold zfN at hl; split at hl; exact absurd hl zeM; cases hl
 case call c=>
  unfold zc4 at hl;split at hl
  . exact absurd hl zl8
  . rename_i fo hc;cases hl;exact ⟨c,fo,rfl,hc,rfl,rfl⟩
  . cases hl
end
def fat (fn:FuncId) (kind:CallKind) (rnd:Option Nat) (tmps:Array Value) (ds:List Deferred) (todo:List Item):Frame:=
 { fn,tmps,todo,defers:=ds,mode:=.run,kind,roundOf:=rnd }
def evT (tmps:Array Value):Operand->Value
 | .tmp t=>tmps.getD t undef
 | .const v=>v
 | .global g=>.pointer (Ob ⟨g,0,Oe⟩)
 | .func f=>.func (.func f) #[] #[]
theorem zjP (fn:FuncId) (kind:CallKind) (rnd:Option Nat) (tmps:Array Value) (ds:List Deferred) (todo:List Item):(fat fn kind rnd tmps ds todo).eval=evT tmps:=by
 funext x; cases x<;>rfl
def zg0 (tmps:Array Value) (dst:Option Nat) (v:Value):Array Value:=
 match dst with
 | some d=>tmps.setIfInBounds d v
 | none=>tmps
theorem zdR (tmps:Array Value) (dst:Option Nat) (v:Value):(zg0 tmps dst v).size=tmps.size:=by cases dst<;>simp [zg0]
section moves
variable {P:Program} {fn:FuncId} {kind:CallKind} {rnd:Option Nat} {tmps:Array Value} {ds:List Deferred} {k:List Item} {cs:List Frame} {w:World}
theorem zwT:step P (lone (fat fn kind rnd tmps ds (.code .skip::k)) cs w)=.next (lone (fat fn kind rnd tmps ds k) cs w):=step_lone_go (by simp [stepG,stepG.exec,fat])
theorem zup {l:Nat}:step P (lone (fat fn kind rnd tmps ds (.code (.label l)::k)) cs w)=.next (lone (fat fn kind rnd tmps ds k) cs w):=step_lone_go (by simp [stepG,stepG.exec,fat])
theorem zqQ {id:Nat}:step P (lone (fat fn kind rnd tmps ds (.inBlock id::k)) cs w)=.next (lone (fat fn kind rnd tmps ds k) cs w):=step_lone_go (by simp [stepG,stepG.exec,fat])
theorem zqR {c:Code}:step P (lone (fat fn kind rnd tmps ds (.inScope c::k)) cs w)=.next (lone (fat fn kind rnd tmps ds k) cs w):=step_lone_go (by simp [stepG,stepG.exec,fat])
theorem zlu {x y:Code}:step P (lone (fat fn kind rnd tmps ds (.code (.seq x y)::k)) cs w)=.next (lone (fat fn kind rnd tmps ds (.code x::.code y::k)) cs w):=step_lone_go (by simp [stepG,stepG.exec,fat])
theorem zwU {c:Operand} {x y:Code} {t:Bool} (h:evT tmps c=.bool t) :
 step P (lone (fat fn kind rnd tmps ds (.code (.cond c x y)::k)) cs w)=.next (lone (fat fn kind rnd tmps ds (.code (if t then x else y)::k)) cs w):=
 step_lone_go (by
  have:=congrFun (zjP fn kind rnd tmps ds (.code (.cond c x y)::k)) c;simp only [fat] at this;simp [stepG,stepG.exec,fat,this,h])
theorem zhw {id:Nat} {c:Code}:step P (lone (fat fn kind rnd tmps ds (.code (.block id c)::k)) cs w)=.next (lone (fat fn kind rnd tmps ds (.code c::.inBlock id::k)) cs w):=step_lone_go (by simp [stepG,stepG.exec,fat])
theorem zwV {c:Code}:step P (lone (fat fn kind rnd tmps ds (.code (.loop c)::k)) cs w)=.next (lone (fat fn kind rnd tmps ds (.code c::.inLoop c::k)) cs w):=step_lone_go (by simp [stepG,stepG.exec,fat])
theorem zrP {c:Code}:step P (lone (fat fn kind rnd tmps ds (.inLoop c::k)) cs w)=.next (lone (fat fn kind rnd tmps ds (.code c::.inLoop c::k)) cs w):=step_lone_go (by simp [stepG,stepG.exec,fat])
theorem zjQ {c:Code}:step P (lone (fat fn kind rnd tmps ds (.code (.scope c)::k)) cs w)=.next (lone (fat fn kind rnd tmps ds (.code c::.inScope c::k)) cs w):=step_lone_go (by simp [stepG,stepG.exec,fat])
theorem zwW {id:Nat} {k':List Item} (h:exitTo id k=Ob k'):step P (lone (fat fn kind rnd tmps ds (.code (.exit id)::k)) cs w)=.next (lone (fat fn kind rnd tmps ds k') cs w):=step_lone_go (by simp [stepG,stepG.exec,fat,h])
theorem zke {id:Nat} {ops:Array Oper}:step P (lone (fat fn kind rnd tmps ds (.code (.region id ops Oc)::k)) cs w)=.next (lone (fat fn kind rnd tmps ds (.inRegion ops (List.range ops.size)::k)) cs w):=step_lone_go (by simp [stepG,stepG.exec,fat])
theorem zwX {id:Nat} {ops:Array Oper}:step P (lone (fat fn kind rnd tmps ds (.code (.region id ops Od)::k)) cs w) =
 .next (lone (fat fn kind rnd tmps ds (.inRegion ops (Region.schedule (P.follows .mixedOrders) ops (w.tape w.drawn (.order fn id)))::k)) cs { w with drawn:=w.drawn+1 }):=
 step_lone_go (by simp [stepG,stepG.exec,fat,choose,Sem.run,Question.forced,Question.cut])
theorem zfu {ops:Array Oper}:step P (lone (fat fn kind rnd tmps ds (.inRegion ops []::k)) cs w)=.next (lone (fat fn kind rnd tmps ds k) cs w):=step_lone_go (by simp [stepG,stepG.exec,fat])
theorem zgn {ops:Array Oper} {i:Nat} {is:List Nat} (v:Value):(fat fn kind rnd tmps ds (.inRegion ops (i::is)::k)).finish v=fat fn kind rnd (zg0 tmps ((ops[i]?).bind (·.dst)) v) ds (.inRegion ops is::k):=by
 cases h:(ops[i]?).bind (·.dst)<;>simp [Frame.finish,fat,zg0,h]
theorem zlv {ops:Array Oper} {i:Nat} {is:List Nat} (h:((ops[i]?).map (Region.wanted · (yielded ops tmps))).getD Oc=Oc) :
 step P (lone (fat fn kind rnd tmps ds (.inRegion ops (i::is)::k)) cs w)=.next (lone (fat fn kind rnd (zg0 tmps ((ops[i]?).bind (·.dst)) undef) ds (.inRegion ops is::k)) cs w):=by
 rw [← zgn];exact step_lone_go (by simp [stepG,stepG.exec,fat,h])
theorem zpL {ops:Array Oper} {i:Nat} {is:List Nat} {o:Oper} (ho:ops[i]?=Ob o) (hw:Region.wanted o (yielded ops tmps)=Od) (hs:zd4 o.op=Od) :
 stepG P Od { frame:=fat fn kind rnd tmps ds (.inRegion ops (i::is)::k),callers:=cs,status:=.running,dying:=Oe } w =
  stepG.apply P Od (fat fn kind rnd tmps ds (.inRegion ops (i::is)::k)) cs Oe (execOp (evT tmps) o) w:=by
 have he:=zjP fn kind rnd tmps ds (.inRegion ops (i::is)::k);simp only [fat] at he;simp only [stepG,stepG.exec,stepG.oper,Frame.oper?,fat,ho,Option.map_some,Option.getD_some,hw,if_true,he];split
 . rename_i h1 h2;rw [h2] at hs;simp [zd4] at hs
 . rfl
theorem zgI {ops:Array Oper} {i:Nat} {is:List Nat} {o:Oper} {nx:Next} {v:Value} {w':World} (ho:ops[i]?=Ob o) (hw:Region.wanted o (yielded ops tmps)=Od) (hs:zd4 o.op=Od)
 (hr:(execOp (evT tmps) o).run P w=.ok nx w') (hnx:nx=.value v\/(nx=.skip/\v=undef)) :
 step P (lone (fat fn kind rnd tmps ds (.inRegion ops (i::is)::k)) cs w)=.next (lone (fat fn kind rnd (zg0 tmps o.dst v) ds (.inRegion ops is::k)) cs w'):=by
 have hf:=zgn (fn:=fn) (kind:=kind) (rnd:=rnd) (tmps:=tmps) (ds:=ds) (k:=k) (ops:=ops) (i:=i) (is:=is) v;rw [ho] at hf;simp only [Zs] at hf;refine step_lone_go ?_;rw [zpL ho hw hs,← hf];rcases hnx with rfl | ⟨rfl,rfl⟩<;>simp [stepG.apply,hr]
def ziQ (P:Program):Next->Option Frame
 | .enter f args=>Ob (Frame.enter P f args .normal)
 | .round l f tmps a b=>Ob (Frame.round l f tmps a b .normal)
 | _=>Oe
theorem zlw {ops:Array Oper} {i:Nat} {is:List Nat} {o:Oper} {nx:Next} {s:Frame} {w':World} (ho:ops[i]?=Ob o) (hw:Region.wanted o (yielded ops tmps)=Od) (hs:zd4 o.op=Od)
 (hr:(execOp (evT tmps) o).run P w=.ok nx w') (hnx:ziQ P nx=Ob s) :
 step P (lone (fat fn kind rnd tmps ds (.inRegion ops (i::is)::k)) cs w)=.next (lone s (fat fn kind rnd tmps ds (.inRegion ops (i::is)::k)::cs) w'):=by
 refine step_lone_go ?_;rw [zpL ho hw hs];cases nx<;>simp [ziQ] at hnx<;>subst hnx<;>simp [stepG.apply,hr,fat]
end moves
def zBX (d:Deferred) (w:World):Prop:=∃ r,d={ target:=.collected r,args:=#[] }/\w.heap[r]?=Ob (.deferred (Ob []))
def zig (ds:List Deferred) (w:World):Prop:=∀ d∈ds,zBX d w
def zoM (ds:List Deferred) (w:World):Prop:=∀ d∈ds,zBX d w\/∀ r,d≠{ target:=.collected r,args:=#[] }
theorem zoM.marks {ds:List Deferred} {w:World} {N:Nat} (h:zoM ds w) (hn:∀ d∈ds,∃ r,d={ target:=.collected r,args:=#[] }/\N<=r):zig ds w:=λd hd=>by
 rcases h d hd with q | q
 . exact q
 . obtain ⟨r,e,_⟩:=hn d hd;exact absurd e (q r)
def ziR (ds:List Deferred):Prop:=ds.Pairwise λd d'=>d≠d'
theorem H0.notMarker {base:Nat} {V:Emb} {h:za} {w:World} (hr:H0 base V h w) {b:Nat} {l:Loc} (hb:V b=Ob l) (ha:Alive h b) {r:Nat} {x:Option (List Deferred)} (hm:w.heap[r]?=Ob (.deferred x)):l.c≠r:=by
 rintro rfl
 have hblk:=hr.blk b l hb;unfold Alive at ha;cases hg:h.get b with
 | none=>rw [hg] at ha; exact ha
 | some y=>
  rw [hg] at ha hblk;cases y with
  | arr cells ro=>obtain ⟨cc,el,fz,h1,_⟩:=hblk; rw [hm] at h1; cases h1
  | mp es=>obtain ⟨_,ces,clk,h1,_⟩:=hblk; rw [hm] at h1; cases h1
  | loop L=>obtain ⟨_,L',h1,_⟩:=hblk; rw [hm] at h1; cases h1
  | dead=>exact ha
theorem zoM.trans {base:Nat} {V V':Emb} {h h':za} {w w':World} {ds:List Deferred} (hr:zeH base V h w) (t:Trans V h w V' h' w') (hd:zoM ds w):zoM ds w':=by
 intro d hd';refine (hd d hd').imp (λq=>?_) id;obtain ⟨r,h1,h2⟩:=q;refine ⟨r,h1, ?_⟩;have hlt:r<w.heap.size:=(Array.getElem?_eq_some_iff.1 h2).1;rw [t.frame r hlt (λb l hb ho=>hr.notMarker hb ho.alive h2)];exact h2
def zrQ (V:Emb) (h:za) (rnd:Option Nat):Prop:=∀ l',rnd=Ob l'->∃ la loc L,V la=Ob loc/\loc.c=l'/\h.get la=Ob (.loop L)
theorem zrQ.trans {V V':Emb} {h h':za} {w w':World} {rnd:Option Nat} (hr:zrQ V h rnd) (t:Trans V h w V' h' w'):zrQ V' h' rnd:=by
 intro l' e;obtain ⟨la,loc,L,h1,h2,h3⟩:=hr l' e;obtain ⟨L',h4,_⟩:=t.loops la loc L h1 h3;exact ⟨la,loc,L',t.ext _ _ h1,h2,h4⟩
inductive zk7 where
 | normal
 | exit (id:Nat)
 | goto (l:Nat)
 | ret
 | pan (v:Value)
def zAS (V:Emb):zaC->zk7->Prop
 | .normal,.normal=>True
 | .exit a,.exit b=>a=b
 | .goto a,.goto b=>a=b
 | .ret,.ret=>True
 | .pan v,.pan v'=>zag V v v'
 | _,_=>False
def notCall:List Item->Bool
 | .call _ _ _ _::_=>Oc
 | _=>Od
def Lands (P:Program) (m:Machine) (fn:FuncId) (kind:CallKind) (rnd:Option Nat) (k:List Item) (cs:List Frame) (e:zk7) (tmps:Array Value) (ds:List Deferred) (w:World):Prop:=
 match e with
 | .normal=>Steps P m (lone (fat fn kind rnd tmps ds k) cs w)
 | .exit id=>∃ k2,exitTo id k2=exitTo id k/\Steps P m (lone (fat fn kind rnd tmps ds (.code (.exit id)::k2)) cs w)
 | .goto l=>∃ k2,gotoIn l k2=gotoIn l k/\Steps P m (lone (fat fn kind rnd tmps ds (.code (.goto l)::k2)) cs w)
 | .ret=>∃ k2,Steps P m (lone (fat fn kind rnd tmps ds (.code .ret::k2)) cs w)
 | .pan v=>∃ k2,notCall k2=Od/\Steps P m (lone { fat fn kind rnd tmps ds k2 with mode:=.panicking [{ v,recovered:=Oc }] } cs w)
theorem Lands.of_steps {P:Program} {m m₁:Machine} {fn:FuncId} {kind:CallKind} {rnd:Option Nat} {k:List Item} {cs:List Frame} {e:zk7} {tmps:Array Value} {ds:List Deferred} {w:World}
 (h:Steps P m m₁) (h':Lands P m₁ fn kind rnd k cs e tmps ds w):Lands P m fn kind rnd k cs e tmps ds w:=by
 cases e with
 | normal=>exact h.trans h'
 | exit id=>obtain ⟨k2,a,b⟩:=h'; exact ⟨k2,a,h.trans b⟩
 | goto l=>obtain ⟨k2,a,b⟩:=h'; exact ⟨k2,a,h.trans b⟩
 | ret=>obtain ⟨k2,b⟩:=h'; exact ⟨k2,h.trans b⟩
 | pan v=>obtain ⟨k2,a,b⟩:=h'; exact ⟨k2,a,h.trans b⟩
theorem Lands.pass {P:Program} {m:Machine} {fn:FuncId} {kind:CallKind} {rnd:Option Nat} {x:Item} {k:List Item} {cs:List Frame} {e:zk7} {tmps:Array Value} {ds:List Deferred} {w:World}
 (hx:x.plain=Od) (he:e≠.normal) (h:Lands P m fn kind rnd (x::k) cs e tmps ds w):Lands P m fn kind rnd k cs e tmps ds w:=by
 cases e with
 | normal=>exact absurd rfl he
 | exit id=>obtain ⟨k2,a,b⟩:=h; exact ⟨k2,by rw [a]; cases x<;>simp_all [exitTo,Item.plain],b⟩
 | goto l=>obtain ⟨k2,a,b⟩:=h; exact ⟨k2,by rw [a]; cases x<;>simp_all [gotoIn,Item.plain],b⟩
 | ret=>exact h
 | pan v=>exact h
structure Post (base:Nat) (V:Emb) (h:za) (w:World) (ds:List Deferred) (n:Nat) (e:zaC) (fr':zg) (h':za) (e':zk7) (tmps':Array Value) (ds':List Deferred) (w':World) (V':Emb):Prop where
 exit:zAS V' e e'
 size:tmps'.size=n
 frame:ziL V' fr' tmps'
 heap:zeH base V' h' w'
 trans:Trans V h w V' h' w'
 dsok:zoM ds' w'
 dsnew:∃ news,ds'=news++ds/\∀ d∈news,∃ r,d={ target:=.collected r,args:=#[] }/\w.heap.size<=r
 dsnd:ziR ds'
structure Pre (base:Nat) (V:Emb) (h:za) (w:World) (ds:List Deferred) (rnd:Option Nat) (n:Nat) (fr:zg) (tmps:Array Value):Prop where
 size:tmps.size=n
 frame:ziL V fr tmps
 heap:zeH base V h w
 dsok:zoM ds w
 dsnd:ziR ds
 rndok:zrQ V h rnd
 norm:rnd=Oe\/ds=[]
theorem Pre.post {base:Nat} {V V':Emb} {h h':za} {w w':World} {ds ds':List Deferred} {rnd:Option Nat} {n:Nat} {fr fr':zg} {tmps tmps':Array Value} {e:zaC} {e':zk7}
 (p:Pre base V h w ds rnd n fr tmps) (q:Post base V h w ds n e fr' h' e' tmps' ds' w' V') (hn:rnd=Oe\/ds'=[]):Pre base V' h' w' ds' rnd n fr' tmps':=
 ⟨q.size,q.frame,q.heap,q.dsok,q.dsnd,p.rndok.trans q.trans,hn⟩
theorem Post.andThen {base:Nat} {V V₁ V₂:Emb} {h h₁ h₂:za} {w w₁ w₂:World} {ds ds₁ ds₂:List Deferred} {n:Nat} {e e1:zaC} {fr₁ fr₂:zg} {e' e1':zk7} {tmps₁ tmps₂:Array Value}
 (a:Post base V h w ds n e1 fr₁ h₁ e1' tmps₁ ds₁ w₁ V₁) (b:Post base V₁ h₁ w₁ ds₁ n e fr₂ h₂ e' tmps₂ ds₂ w₂ V₂):Post base V h w ds n e fr₂ h₂ e' tmps₂ ds₂ w₂ V₂:=by
 obtain ⟨n1,e1,h1⟩:=a.dsnew;obtain ⟨n2,e2,h2⟩:=b.dsnew;refine ⟨b.exit,b.size,b.frame,b.heap,a.trans.trans b.trans,b.dsok,⟨n2++n1,by rw [e2,e1,List.append_assoc], ?_⟩,b.dsnd⟩;intro d hd;rcases List.mem_append.1 hd with hd | hd
 . obtain ⟨r,e,q⟩:=h2 d hd;exact ⟨r,e,Nat.le_trans a.trans.size q⟩
 . exact h1 d hd
theorem Post.marks {base:Nat} {V V':Emb} {h h':za} {w w':World} {ds':List Deferred} {n:Nat} {fr':zg} {tmps':Array Value} {e:zaC} {e':zk7}
 (q:Post base V h w [] n e fr' h' e' tmps' ds' w' V'):zig ds' w':=by
 obtain ⟨news,en,hn⟩:=q.dsnew;rw [List.append_nil] at en;subst en;exact q.dsok.marks hn
def Heads (c:Code) (x:Item):Prop:=x=.code c\/∃ c',c=.loop c'/\x=.inLoop c'
def RunOk (P:Program) (base:Nat) (run:Runner):Prop:=
 ∀ (c:Code) (fr:zg) (h:za) (e:zaC) (fr':zg) (h':za),run c fr h=Ob (e,fr',h') ->
  ∀ (n:Nat),zcC n c=Od->∀ (V:Emb) (w:World) (ds:List Deferred) (rnd:Option Nat) (tmps:Array Value),Pre base V h w ds rnd n fr tmps ->
   ∀ (fn:FuncId) (kind:CallKind) (k:List Item) (cs:List Frame) (x:Item),Heads c x->∃ e' tmps' ds' w' V',Post base V h w ds n e fr' h' e' tmps' ds' w' V'/\(rnd=Oe\/ds'=[]) /\
    Lands P (lone (fat fn kind rnd tmps ds (x::k)) cs w) fn kind rnd k cs e' tmps' ds' w'
inductive zua where
 | ret (v:Value)
 | pan (v:Value)
def znn (V:Emb):zhT->zua->Prop
 | .ret v,.ret v'=>zag V v v'
 | .pan v,.pan v'=>zag V v v'
 | _,_=>False
def zua.frame (c:Frame):zua->Frame
 | .ret v=>c.finish v
 | .pan v=>c.raise [{ v,recovered:=Oc }]
def zlx (P:Program) (base:Nat) (call:Caller):Prop:=
 ∀ (f:zb) (args:List zb) (h:za) (r:zhT) (h':za),call f args h=Ob (r,h') ->
  ∀ (V:Emb) (w:World) (f':Value) (args':Array Value),zag V f f'->zcB V args args'.toList->zeH base V h w ->
   ∃ nx s,(do let d ← Deferred.ofValue f' args'; invoke d.target d.args:Sem Next).run P w=.ok nx w/\ziQ P nx=Ob s /\
    ∀ (c:Frame) (cs:List Frame),∃ r' w' V',znn V' r r'/\zeH base V' h' w'/\Trans V h w V' h' w'/\Steps P (lone s (c::cs) w) (lone (r'.frame c) cs w')
theorem zih {V:Emb} {fr:zg} {tmps:Array Value} (hf:ziL V fr tmps) (x:Operand):zag V (fr.op x) (evT tmps x):=by
 cases x with
 | tmp t=>exact hf t
 | const v=>
  show zag V ((zhR v).getD .undef) v;cases h:zhR v with
  | none=>exact .undef v
  | some y=>exact zeo V v y h
 | global g=>exact .undef _
 | func f=>exact .func _ _ [] [] #[] #[] (.inr ⟨f,rfl,rfl⟩) rfl rfl Ol Ol
theorem ziL.putDst {V:Emb} {fr:zg} {tmps:Array Value} {dst:Option Nat} {v:zb} {v':Value} (h:ziL V fr tmps) (hd:∀ d,dst=Ob d->d<tmps.size) (hv:zag V v v'):ziL V (putDst fr dst v) (zg0 tmps dst v'):=by
 cases dst with
 | none=>exact h
 | some d=>exact h.put (hd d rfl) hv
theorem zno {V:Emb} {fr:zg} {tmps:Array Value} {ops:Array Oper} {o:Oper} {b:Bool} (hf:ziL V fr tmps) (hsz:∀ o∈ops.toList,∀ d,o.dst=Ob d->d<tmps.size) (hl:awanted ops.toList fr o.guard=Ob b):Region.wanted o (yielded ops tmps)=b:=by
 unfold awanted at hl;unfold Region.wanted;split at hl
 ·rename_i hg; simp at hl; subst hl; simp [hg]
 ·rename_i j want hg;simp only [hg];unfold yielded;rw [Array.getElem?_toList] at hl;cases hd:(ops[j]?).bind (λo=>o.dst) with
  | none=>rw [hd] at hl; simp at hl; subst hl; simp
  | some d=>
   rw [hd] at hl;simp only at hl;have hlt:d<tmps.size:=by
    cases ho:ops[j]? with
    | none=>rw [ho] at hd; cases hd
    | some o'=>
     rw [ho] at hd;exact hsz o' (by rw [Array.mem_toList_iff]; exact Array.mem_of_getElem? ho) d hd
   have hv:=hf d;have e:tmps.getD d undef=tmps[d]:=by simp [Array.getD,hlt]
   rw [e] at hv;simp only [Zs,Array.getElem?_eq_getElem hlt];generalize tmps[d]=y at hv;generalize fr.ev d=x at hv hl;cases hv<;>simp at hl<;>subst hl<;>simp
section
variable {T:Tab} {P:Program} (ok:T.Ok P) {base:Nat}
include ok in
theorem zpM {call:Caller} (hc:zlx P base call) {V:Emb} {h:za} {w:World} {fr:zg} {tmps:Array Value} {o:Oper} {r:zhT} {h':za}
    (hf:ziL V fr tmps) (hr:zeH base V h w) (hl:astep T call fr.op o.op h=Ob (r,h')) (hs:zd4 o.op=Od)
    {ops:Array Oper} {i:Nat} (ho:ops[i]?=Ob o) (hw:Region.wanted o (yielded ops tmps)=Od)
    (fn:FuncId) (kind:CallKind) (rnd:Option Nat) (ds:List Deferred) (is:List Nat) (k:List Item) (cs:List Frame) :
    ∃ r' w' V',znn V' r r'/\zeH base V' h' w'/\Trans V h w V' h' w'/\Steps P (lone (fat fn kind rnd tmps ds (.inRegion ops (i::is)::k)) cs w) (lone
      (match r' with
        | .ret v'=>fat fn kind rnd (zg0 tmps o.dst v') ds (.inRegion ops is::k)
        | .pan v'=>{ fat fn kind rnd tmps ds (.inRegion ops (i::is)::k) with mode:=.panicking [{ v:=v',recovered:=Oc }] }) cs w'):=by
  unfold astep at hl;split at hl
  · rename_i v h2 ha;cases hl;obtain ⟨nx,v',w',V',h1,h2,h3,h4,h5⟩:=zrO ok (o:=o) hr.toH0 (λ_=>hr.none_next) (λx=>zih hf x) ha;exact ⟨.ret v',w',V',h3,h4.toH h5 hr,h5,.one (zgI ho hw hs h1 h2)⟩
  · rename_i f args ha;obtain ⟨c,fo,hop,hcal,rfl,rfl⟩:=zc5 ha;obtain ⟨nx,s,h1,h2,h3⟩:=hc _ _ _ _ _ hl V w (evT tmps fo) (c.args.map (evT tmps)) (zih hf fo) (zjO (λx=>zih hf x) c.args) hr;have hrun:(execOp (evT tmps) o).run P w=.ok nx w:=by
      unfold execOp;rw [hop];simp only [resolve,hcal];exact h1
    have hst:=zlw (fn:=fn) (kind:=kind) (rnd:=rnd) (ds:=ds) (k:=k) (cs:=cs) (is:=is) ho hw hs hrun h2;obtain ⟨r',w',V',h4,h5,h6,h7⟩:=h3 (fat fn kind rnd tmps ds (.inRegion ops (i::is)::k)) cs;refine ⟨r',w',V',h4,h5,h6, ?_⟩;have hall:=Steps.head hst h7;cases r' with
    | ret v'=>
      have e:(zua.ret v').frame (fat fn kind rnd tmps ds (.inRegion ops (i::is)::k))=fat fn kind rnd (zg0 tmps o.dst v') ds (.inRegion ops is::k):=by
        simp only [zua.frame];rw [zgn,ho]; rfl
      rw [e] at hall;exact hall
    | pan v'=>exact hall
  · split at hl
    case h_2=>cases hl
    rename_i v hv;cases hl;unfold apanic at hv;split at hv
    case h_2=>cases hv
    rename_i x hop;split at hv
    case h_2=>cases hv
    rename_i ty u hx;cases hv;have hxv:=zih hf x;rw [hx] at hxv;generalize hcc:evT tmps x=cc at hxv;have hxv0:=hxv;cases hxv with
    | iface _ _ u' hu=>
    refine ⟨.pan (.iface ty u'),w,V,hxv0,hr,.refl _ _ _,.one (step_lone_go ?_)⟩;rw [zpL ho hw hs];have hrun:(execOp (evT tmps) o).run P w=.halt (.panic (.iface ty u')) w:=by
      unfold execOp;rw [hop];simp [Instr.panic,hcc,goPanic,Sem.run]
    simp [stepG.apply,hrun,fat,Frame.raise]
def zrR (n:Nat) (ops:Array Oper):Prop:=∀ o∈ops.toList,(∀ d,o.dst=Ob d->d<n)/\zd4 o.op=Od
theorem zuq {n:Nat} {ops:Array Oper} (h:ops.toList.all (λo=>zwP n o&&zd4 o.op)=Od):zrR n ops:=by
 intro o ho;have:=List.all_eq_true.1 h o ho;simp only [Bool.and_eq_true] at this;refine ⟨λd hd=>?_,this.2⟩;have h1:=this.1;unfold zwP at h1;rw [hd] at h1;simpa using h1
include ok in
theorem zoN {call:Caller} (hc:zlx P base call) {ops:Array Oper} {n:Nat} (hops:zrR n ops) :
    ∀ (rest:List Oper) (i:Nat) (fr:zg) (h:za) (e:zaC) (fr':zg) (h':za),ops.toList.drop i=rest->aops T call ops.toList rest fr h=Ob (e,fr',h') ->
      ∀ (V:Emb) (w:World) (ds:List Deferred) (rnd:Option Nat) (tmps:Array Value),Pre base V h w ds rnd n fr tmps ->
        ∀ (fn:FuncId) (kind:CallKind) (k:List Item) (cs:List Frame),∃ e' tmps' ds' w' V',Post base V h w ds n e fr' h' e' tmps' ds' w' V'/\(rnd=Oe\/ds'=[]) /\
          Lands P (lone (fat fn kind rnd tmps ds (.inRegion ops (List.range' i rest.length)::k)) cs w) fn kind rnd k cs e' tmps' ds' w'
  | [],i,fr,h,e,fr',h',_,hl,V,w,ds,rnd,tmps,pre,fn,kind,k,cs=>by
    simp only [aops] at hl;cases hl;exact ⟨.normal,tmps,ds,w,V,⟨trivial,pre.size,pre.frame,pre.heap,.refl _ _ _,pre.dsok,⟨[],rfl,by simp⟩,pre.dsnd⟩,pre.norm,Steps.one zfu⟩
  | o::rest,i,fr,h,e,fr',h',hd,hl,V,w,ds,rnd,tmps,pre,fn,kind,k,cs=>by
    have hi:ops.toList[i]?=Ob o:=by
      have:=congrArg (λl=>l[0]?) hd;simpa [List.getElem?_drop] using this
    have hoi:ops[i]?=Ob o:=by simpa using hi
    have hmem:o∈ops.toList:=List.mem_of_getElem? hi;obtain ⟨hdst,hsv⟩:=hops o hmem;have hd2:ops.toList.drop (i+1)=rest:=by
      have:=congrArg (λl=>l.drop 1) hd;simpa [List.drop_drop] using this
    have hlt:∀ o∈ops.toList,∀ d,o.dst=Ob d->d<tmps.size:=λo' ho' d hd'=>by rw [pre.size]; exact (hops o' ho').1 d hd'
    simp only [aops] at hl;rw [show List.range' i (o::rest).length=i::List.range' (i+1) rest.length from by simp [List.range'_succ]];cases hwt:awanted ops.toList fr o.guard with
    | none=>rw [hwt] at hl; cases hl
    | some b=>
      have hw:=zno pre.frame hlt hwt;rw [hwt] at hl;cases b with
      | false=>
        simp only at hl;have hst:=zlv (P:=P) (fn:=fn) (kind:=kind) (rnd:=rnd) (tmps:=tmps) (ds:=ds) (k:=k) (cs:=cs) (w:=w) (ops:=ops) (i:=i) (is:=List.range' (i+1) rest.length) (by simp [hoi,hw]);rw [hoi] at hst;simp only [Zs] at hst;obtain ⟨e',tmps',ds',w',V',h1,h2,h3⟩:=zoN hc hops rest (i+1) _ h e fr' h' hd2 hl V w ds rnd (zg0 tmps o.dst undef)
          ⟨by rw [zdR]; exact pre.size,pre.frame.putDst (λd hd'=>hlt o hmem d hd') (.tuple' (.nil _)),pre.heap,pre.dsok,pre.dsnd,pre.rndok,pre.norm⟩ fn kind k cs
        exact ⟨e',tmps',ds',w',V',h1,h2,h3.of_steps (.one hst)⟩
      | true=>
        simp only at hl;cases hst:astep T call fr.op o.op h with
        | none=>rw [hst] at hl; cases hl
        | some rr=>
          obtain ⟨r,h1⟩:=rr;rw [hst] at hl;obtain ⟨r',w1,V1,hrel,hr1,ht1,hsteps⟩:=zpM ok hc pre.frame pre.heap hst hsv hoi hw fn kind rnd ds (List.range' (i+1) rest.length) k cs;cases r with
          | ret v=>
            cases r' with
            | pan _=>exact hrel.elim
            | ret v'=>
              simp only at hl;obtain ⟨e',tmps',ds',w',V',q1,q2,q3⟩:=zoN hc hops rest (i+1) _ h1 e fr' h' hd2 hl V1 w1 ds rnd (zg0 tmps o.dst v')
                ⟨by rw [zdR]; exact pre.size,(pre.frame.mono ht1.ext).putDst (λd hd'=>hlt o hmem d hd') hrel,hr1,pre.dsok.trans pre.heap ht1,pre.dsnd,pre.rndok.trans ht1,pre.norm⟩ fn kind k cs
              refine ⟨e',tmps',ds',w',V', ?_,q2,q3.of_steps hsteps⟩;exact ⟨q1.exit,q1.size,q1.frame,q1.heap,ht1.trans q1.trans,q1.dsok,let ⟨ns,a,b⟩:=q1.dsnew; ⟨ns,a,λd hd'=>let ⟨r,c,e⟩:=b d hd'; ⟨r,c,Nat.le_trans ht1.size e⟩⟩,q1.dsnd⟩
          | pan v=>
            cases r' with
            | ret _=>exact hrel.elim
            | pan v'=>
              simp only at hl;cases hl;exact ⟨.pan v',tmps,ds,w1,V1,⟨hrel,pre.size,pre.frame.mono ht1.ext,hr1,ht1,pre.dsok.trans pre.heap ht1,⟨[],rfl,by simp⟩,pre.dsnd⟩,pre.norm,⟨_,rfl,hsteps⟩⟩
end
section
variable {T:Tab} {P:Program} (ok:T.Ok P) {base:Nat}
theorem argFrame_ev:∀ (vs:List zb) (i:Nat) (fr:zg) (t:Nat),zg.ev (zbk i vs fr) t=if i<=t then (match vs[t-i]? with | some v=>v | none=>fr.ev t) else fr.ev t
 | [],i,fr,t=>by simp [zbk]
 | v::vs,i,fr,t=>by
  simp only [zbk];rw [argFrame_ev vs (i+1),zg.ev_set];by_cases h:i<=t
  ·rw [if_pos h];by_cases e:t=i
   ·subst e;rw [if_neg J]; simp
   ·rw [if_pos J,show t-i=(t-(i+1))+1 from by omega];simp [e]
  ·rw [if_neg h,if_neg J,if_neg J]
theorem zl9 {V:Emb} {args:List zb} {args':Array Value} (h:zcB V args args'.toList) (m:Nat):ziL V (zbk 0 args .leaf) (args'++Array.replicate m undef):=by
 intro t;rw [argFrame_ev];simp only [Nat.zero_le,if_true,Nat.sub_zero];cases hv:args[t]? with
 | none=>exact .undef _
 | some v=>
  obtain ⟨v',hv',hvv⟩:=h.at hv;have ht:t<args'.size:=by
   rw [Array.getElem?_toList] at hv';exact (Array.getElem?_eq_some_iff.1 hv').1
  have e:(args'++Array.replicate m undef).getD t undef=v':=by
   rw [Array.getD_eq_getD_getElem?,Array.getElem?_append_left ht];rw [Array.getElem?_toList] at hv';rw [hv']; rfl
  rw [e];exact hvv
theorem zkf {fr:Frame} (hm:fr.mode=.returning\/∃ ch,fr.mode=.panicking ch) (cs:List Frame) (tl:List Deferred):∀ (ds:List Deferred) (w:World),zig ds w->ziR ds ->
    ∃ w',Steps P (lone { fr with defers:=ds++tl } cs w) (lone { fr with defers:=tl } cs w')/\w'.heap.size=w.heap.size/\w'.os=w.os/\w'.tape=w.tape/\w'.output=w.output /\
      (∀ k,(∀ d∈ds,d≠{ target:=.collected k,args:=#[] })->w'.heap[k]?=w.heap[k]?)
  | [],w,_,_=>⟨w,.refl _ _,rfl,rfl,rfl,rfl,λ_ _=>rfl⟩
  | d::ds,w,hd,hn=>by
    obtain ⟨r,rfl,hr⟩:=hd d (List.mem_cons_self ..);have hlt:r<w.heap.size:=(Array.getElem?_eq_some_iff.1 hr).1
    let w1:World:={ w with heap:=w.heap.setIfInBounds r (.deferred Oe) }
    have hstep:step P (lone { fr with defers:={ target:=.collected r,args:=#[] }::(ds++tl) } cs w)=.next (lone { fr with defers:=ds++tl } cs w1):=by
      refine step_lone_go ?_;have htd:(Instr.takeDeferred r).run P w=.ok [] w1:=by
        simp [Instr.takeDeferred,getObj,setObj,Sem.run,hr,w1]
      rcases hm with hm | ⟨ch,hm⟩<;>simp [stepG,hm,unwind,Sem.runT_eq,htd]
    have hd1:zig ds w1:=by
      intro d' hd';obtain ⟨r',e,h'⟩:=hd d' (List.mem_cons_of_mem _ hd');refine ⟨r',e, ?_⟩;have hne:r≠r':=by
        rintro rfl
        have:=(List.pairwise_cons.1 hn).1 d' hd';exact this e.symm
      simp [w1,Array.getElem?_setIfInBounds,hne,h']
    obtain ⟨w',h1,h2,h3,h4,h5,h6⟩:=zkf hm cs tl ds w1 hd1 (List.pairwise_cons.1 hn).2;refine ⟨w',.head hstep h1,by rw [h2]; simp [w1],h3,h4,h5,λk hk=>?_⟩;rw [h6 k (λd' hd'=>hk d' (List.mem_cons_of_mem _ hd'))];have hne:r≠k:=by
      rintro rfl
      exact hk _ (List.mem_cons_self ..) rfl
    simp [w1,Array.getElem?_setIfInBounds,hne]
theorem zha {fr:Frame} (hm:fr.mode=.returning\/∃ ch,fr.mode=.panicking ch) (cs:List Frame) (ds:List Deferred) (w:World) (h1:zig ds w) (h2:ziR ds) :
 ∃ w',Steps P (lone { fr with defers:=ds } cs w) (lone { fr with defers:=[] } cs w')/\w'.heap.size=w.heap.size/\w'.os=w.os/\w'.tape=w.tape/\w'.output=w.output /\
  (∀ k,(∀ d∈ds,d≠{ target:=.collected k,args:=#[] })->w'.heap[k]?=w.heap[k]?):=by
 have:=zkf (P:=P) hm cs [] ds w h1 h2;rwa [List.append_nil] at this
theorem zeH.unmark {V:Emb} {h:za} {w w':World} {ds:List Deferred} (hr:zeH base V h w) (hd:zig ds w) (hsz:w'.heap.size=w.heap.size)
    (hk:∀ k,(∀ d∈ds,d≠{ target:=.collected k,args:=#[] })->w'.heap[k]?=w.heap[k]?):zeH base V h w':=by
  refine ⟨⟨λb l hb=>by rw [hsz]; exact hr.clt b l hb,λb l hb=>?_,hr.inj,by rw [hsz]; exact hr.base⟩,hr.lt⟩;have hblk:=hr.blk b l hb;cases hg:h.get b with
  | none=>rw [hg] at hblk; exact hblk.elim
  | some y=>
    by_cases hy:y=.dead
    · subst hy; trivial
    · rw [hg] at hblk;refine hblk.mono (.refl _) (hk _ ?_);intro d hd' e;obtain ⟨r,e2,h2⟩:=hd d hd';rw [e] at e2;simp at e2;subst e2;exact hr.notMarker hb (by unfold Alive; rw [hg]; cases y<;>first | trivial | exact hy rfl) h2 rfl
include ok in
theorem zqS {V:Emb} {h:za} {w:World} {t:TypeId} {b off:Nat} {l:Loc} {v:zb} (hr:zeH base V h w) (hb:V b=Ob l) (hl:aload T t h (.ptr b off)=Ob v) :
 ∃ v',(loadVar t ⟨l.c,l.o+off,Oe⟩).run P w=.ok v' w/\zag V v v':=by
 unfold aload at hl;simp only at hl;split at hl
 case h_2=>cases hl
 rename_i cells ro hg;obtain ⟨cc,el,fz,h1,h2,h3,h4,h5⟩:=znd hr.toH0 hb hg;unfold apart at hl;split at hl
 . rename_i hagg;split at hl
   case h_2=>cases hl
   rename_i n hn;split at hl
   case isFalse=>cases hl
   rename_i hle;cases hl;obtain ⟨j,hj,hjs⟩:=ok.size hn;refine ⟨.agg ((cc.toList.drop (l.o+off)).take n).toArray, ?_,.agg' (zg7 h4 off n hle J)⟩;simp only [loadVar,Sem.run_bind,Sem.run_pure,Result.andThen_ok,zfF ok hagg,if_true,zaj hj,hjs];rw [zkb w l.c (l.o+off) n cc el fz h1 J];rfl
 . rename_i hagg;have hi:off<cells.length:=(List.getElem?_eq_some_iff.1 hl).1;obtain ⟨v',hv',hvv⟩:=h4.at hl;rw [List.getElem?_take,if_pos hi,List.getElem?_drop,Array.getElem?_toList] at hv';refine ⟨v', ?_,hvv⟩;simp only [loadVar,Sem.run_bind,Sem.run_pure,Result.andThen_ok,zfF ok hagg,Bool.false_eq_true,if_false,run_load];rw [cell_of_row w l.c (l.o+off) cc el fz h1,hv']
 . cases hl
def znp (tmps:Array Value):ResultVar->Sem Value
 | .tmp t=>pure (tmps.getD t undef)
 | .cell a t=>do loadVar t (← asAddr (tmps.getD a undef))
theorem ziS (F:Func) (tmps:Array Value):results F tmps=(do
 let vs ← F.results.mapM (znp tmps)
 pure (if h:vs.size=1 then vs[0] else .tuple vs):Sem Value):=by
 unfold results;have e:(λ(x:ResultVar)=>match x with
  | .tmp t=>(pure (tmps.getD t undef):Sem Value)
  | .cell a t=>do loadVar t (← asAddr (tmps.getD a undef)))=znp tmps:=by
  funext x; cases x<;>rfl
 rw [← e];rfl
include ok in
theorem ziT {V:Emb} {h:za} {w:World} {fr:zg} {tmps:Array Value} (hr:zeH base V h w) (hf:ziL V fr tmps):∀ (rs:List ResultVar) (vs:List zb),aresults T rs fr h=Ob vs ->
    ∃ vs':List Value,(rs.mapM (znp tmps)).run P w=.ok vs' w/\zcB V vs vs'
  | [],vs,hl=>by simp [aresults] at hl; subst hl; exact ⟨[],rfl,.nil _⟩
  | r::rs,vs,hl=>by
    simp only [aresults] at hl;cases h1:aresult T fr h r with
    | none=>rw [h1] at hl; cases hl
    | some v=>
      cases h2:aresults T rs fr h with
      | none=>rw [h1,h2] at hl; cases hl
      | some us=>
        rw [h1,h2] at hl;cases hl;obtain ⟨us',h3,h4⟩:=ziT hr hf rs us h2;have key:∃ v',(znp tmps r).run P w=.ok v' w/\zag V v v':=by
          cases r with
          | tmp t=>
            simp only [aresult] at h1;cases h1;exact ⟨_,rfl,hf t⟩
          | cell a t=>
            simp only [aresult] at h1;have hp:=hf a;have h1':=h1;unfold aload at h1';split at h1'
            case h_2=>cases h1'
            rename_i b off he;rw [he] at hp h1;generalize hcc:tmps.getD a undef=cc at hp;cases hp with
            | ptr _ _ l hb=>
            obtain ⟨v',k1,k2⟩:=zqS (P:=P) ok hr hb h1;refine ⟨v', ?_,k2⟩;simp only [znp,Sem.run_bind,hcc,asAddr,Sem.run_pure,Result.andThen_ok];exact k1
        obtain ⟨v',k1,k2⟩:=key;refine ⟨v'::us', ?_,.cons k2 h4⟩;rw [List.mapM_cons];simp only [Sem.run_bind,k1,Result.andThen_ok,h3,Sem.run_pure]
theorem zly {V:Emb} {vs:List zb} {vs':List Value} (h:zcB V vs vs'):zag V (packed vs) (if h:vs'.toArray.size=1 then vs'.toArray[0] else .tuple vs'.toArray):=by
 match vs,vs',h with
 | [],[],h=>exact .tuple' h
 | [v],[v'],h=>exact h.head
 | v::u::vs,v'::u'::vs',h=>exact .tuple' h
 | [],_::_,h=>exact absurd h.1 Ol
 | _::_,[],h=>exact absurd h.1 Ol
 | [_],_::_::_,h=>exact absurd h.1 Ol
 | _::_::_,[_],h=>exact absurd h.1 Ol
theorem zma {T:Tab} {D:zen} {fr:zg} {h h':za} {r:zhT} (hl:aend T D fr h=Ob (r,h')):h'=h/\∃ vs,aresults T D.results fr h=Ob vs/\r=.ret (packed vs):=by
 unfold aend at hl;split at hl
 . rename_i vs e; cases hl; exact ⟨rfl,vs,e,rfl⟩
 . cases hl
theorem zgo {T:Tab} {D:zen} {fr:zg} {h':za} {r:zhT} {x:Option za} (hl:aback T D fr x=Ob (r,h')):x=Ob h'/\∃ vs,aresults T D.results fr h'=Ob vs/\r=.ret (packed vs):=by
 unfold aback at hl;split at hl
 . obtain ⟨rfl,q⟩:=zma hl; exact ⟨rfl,q⟩
 . cases hl
def zqT (base:Nat) (V:Emb) (h:za) (w:World) (r:zhT) (h':za) (e:Ending) (w':World):Prop:=
 ∃ V',zeH base V' h' w'/\Trans V h w V' h' w'/\((∃ v v',r=.ret v/\e=.returned v'/\zag V' v v')\/(∃ v v',r=.pan v/\e=.panicked [{ v:=v',recovered:=Oc }]/\zag V' v v'))
theorem Trans.unmark {V V':Emb} {h h':za} {w w' w2:World} {ds:List Deferred} (t:Trans V h w V' h' w') (hn:∀ d∈ds,∃ r,d={ target:=.collected r,args:=#[] }/\w.heap.size<=r)
 (u2:w2.heap.size=w'.heap.size) (u3:w2.os=w'.os) (u4:w2.tape=w'.tape) (u5:w2.output=w'.output) (u6:∀ k,(∀ d∈ds,d≠{ target:=.collected k,args:=#[] })->w2.heap[k]?=w'.heap[k]?):Trans V h w V' h' w2:=by
 refine ⟨t.ext,by rw [u2]; exact t.size,λk hk hb=>?_,t.own,u3.trans t.os,u4.trans t.tape,u5.trans t.output,t.loops,t.next,t.dom,t.junk⟩;rw [u6 k ?_]
 . exact t.frame k hk hb
 . intro d hd e;obtain ⟨r,e2,hr⟩:=hn d hd;rw [e] at e2;simp at e2;omega
include ok in
theorem zwj {F:Func} {f:FuncId} {rs:List ResultVar} (hPF:P.funcs[f]?=Ob F) (hrs:F.results.toList=rs) {fr:zg} {tmps:Array Value} {h h':za} {vs:List zb} {V V':Emb} {w w2:World} {todo:List Item} {m:Machine} {cs:List Frame}
 (hres:aresults T rs fr h'=Ob vs) (hf:ziL V' fr tmps) (hr2:zeH base V' h' w2) (tr:Trans V h w V' h' w2) (st:Steps P m (lone { fat f .normal Oe tmps [] todo with mode:=.returning } cs w2)) :
 ∃ e w2 fr2,zqT base V h w (.ret (packed vs)) h' e w2/\Comes P m (lone fr2 cs w2) e/\fr2.fn=f/\fr2.leaving P w2 e:=by
 subst hrs;obtain ⟨vs',hv1,hv2⟩:=ziT (P:=P) ok hr2 hf F.results.toList vs hres;have hrun2:(results F tmps).run P w2=.ok (if h:vs'.toArray.size=1 then vs'.toArray[0] else .tuple vs'.toArray) w2:=by
  rw [ziS,Array.mapM_eq_mapM_toList];simp only [Sem.run_bind,Sem.run_map,hv1,Result.andThen_ok,Sem.run_pure]
 exact ⟨.returned _,w2,{ fat f .normal Oe tmps [] todo with mode:=.returning },⟨V',hr2,tr,.inl ⟨_,_,rfl,rfl,zly hv2⟩⟩,st,rfl,⟨rfl,rfl,rfl,F,hPF,hrun2⟩⟩
theorem zhb {g : FuncId} {F : Func} (hF : P.funcs[g]? = some F) (hn : (F.name == "runtime.NumGoroutine") = false) (hb : F.body.isSome = true) (args : Array Value) (w : World) :
    (callFunc g args).run P w=.ok (.enter g args) w:=by
  have hb':F.body.isNone=Oc:=by
    cases h:F.body with
    | none=>rw [h] at hb; cases hb
    | some _=>rfl
  simp only [callFunc,Sem.run_bind,run_program,Result.andThen_ok,hF,hn,Bool.false_eq_true,if_false,hb',Sem.run_pure]
theorem zur {run:Runner} (hrun:RunOk P base run) {f0:FuncId} {D:zen} (hD:zwQ P f0 D) {vs:List zb} {vs':Array Value} {v:zb} {h3 h4:za} {fr':zg} (hlen:vs.length<=D.cn)
    (hl:run D.rest (Tr.set (Tr.set (zbk 0 vs .leaf) D.p1 v) D.p2 v) h3=Ob (.normal,fr',h4)) {V:Emb} {w:World} (ha:zcB V vs vs'.toList) (hr:zeH base V h3 w) (c1:Frame)
    (hu:(c1.mode=.returning/\v=.ni)\/∃ pv,c1.mode=.panicking [{ v:=pv,recovered:=Oc }]/\zag V v pv) (cs:List Frame) :
    ∃ V' w',zeH base V' h4 w'/\Trans V h3 w V' h4 w'/\Steps P (lone (Frame.enter P D.fn vs' .deferred) (c1::cs) w) (lone { c1 with mode:=.returning } cs w'):=by
  obtain ⟨G,hG,_,hGn,hGr,hGb⟩:=hD.clo;obtain ⟨r1,r2,r3,c,r4,r5,r6⟩:=hD.rop;obtain ⟨m1,m2,m3,m4⟩:=hD.mop;have hsz:vs'.size=vs.length:=by rw [ha.1]; simp
  have henter:Frame.enter P D.fn vs' .deferred=fat D.fn .deferred Oe (vs'++Array.replicate (D.cn-vs'.size) undef) [] [.code (.seq (.region D.cid #[D.rop,D.mop] Oc) D.rest)]:=by
    simp [Frame.enter,fat,hG,hGb,hGn]
  rw [henter];have hrel0:ziL V (zbk 0 vs .leaf) (vs'++Array.replicate (D.cn-vs'.size) undef):=zl9 ha _;have hs0:(vs'++Array.replicate (D.cn-vs'.size) undef).size=D.cn:=by simp; omega
  generalize vs'++Array.replicate (D.cn-vs'.size) undef=tm at hrel0 hs0 ⊢
  -- what recover gives
  obtain ⟨pv,c2,hpv,hset,hrec⟩:∃ pv c2,zag V v pv/\({ c2 with mode:=settle c2.mode }:Frame)={ c1 with mode:=.returning }/\∀ tm2 k,step P (lone (fat D.fn .deferred Oe tm2 [] (.inRegion #[D.rop,D.mop] [0,1]::k)) (c1::cs) w)=.next (lone (fat D.fn .deferred Oe (zg0 tm2 (Ob D.p1) pv) [] (.inRegion #[D.rop,D.mop] [1]::k)) (c2::cs) w):=by
    have hrun0:∀ tm2,(execOp (evT tm2) D.rop).run P w=.ok .recover w:=λtm2=>by
      unfold execOp;rw [r4];simp only [resolve,r5];rfl
    have hw0:∀ tm2,Region.wanted D.rop (yielded #[D.rop,D.mop] tm2)=Od:=λtm2=>by
      unfold Region.wanted; rw [r3]
    have hs1:zd4 D.rop.op=Od:=by rw [r4]; rfl
    have hstep:∀ (pv:Value) (c2:Frame),(recoverD (c1::cs)).getD (.nilIface,c1::cs)=(pv,c2::cs)->∀ tm2 k,step P (lone (fat D.fn .deferred Oe tm2 [] (.inRegion #[D.rop,D.mop] [0,1]::k)) (c1::cs) w)=.next (lone (fat D.fn .deferred Oe (zg0 tm2 (Ob D.p1) pv) [] (.inRegion #[D.rop,D.mop] [1]::k)) (c2::cs) w):=by
      intro pv c2 hq tm2 k;have hf:=zgn (fn:=D.fn) (kind:=.deferred) (rnd:=Oe) (tmps:=tm2) (ds:=[]) (k:=k) (ops:=#[D.rop,D.mop]) (i:=0) (is:=[1]) pv;have hb:(#[D.rop,D.mop][0]?).bind (·.dst)=Ob D.p1:=r1;rw [hb] at hf;refine step_lone_go ?_;rw [zpL (o:=D.rop) rfl (hw0 tm2) hs1,← hf];have hrd:(fat D.fn .deferred Oe tm2 [] (.inRegion #[D.rop,D.mop] [0,1]::k)).roundOf=Oe:=rfl;have htr:=tryRecover_deferred (fr:=fat D.fn .deferred Oe tm2 [] (.inRegion #[D.rop,D.mop] [0,1]::k)) rfl (c1::cs);cases hr:recoverD (c1::cs) with
      | none=>
        rw [hr] at hq htr;simp at hq;obtain ⟨rfl,rfl⟩:=hq;simp [stepG.apply,hrun0,htr,hrd]
      | some q=>
        rw [hr] at hq htr;obtain ⟨q1,q2⟩:=q;simp at hq;obtain ⟨rfl,rfl⟩:=hq;simp [stepG.apply,hrun0,htr,hrd]
    rcases hu with ⟨hm,rfl⟩ | ⟨pv,hm,hpv⟩
    · exact ⟨.nilIface,c1,.ni,by rw [hm]; rfl,hstep _ _ (by simp [recoverD,hm])⟩
    · exact ⟨pv,{ c1 with mode:=.panicking [{ v:=pv,recovered:=Od }] },hpv,rfl,hstep _ _ (by simp [recoverD,hm])⟩
  have s1:=hrec tm [.code D.rest];have hp1:(zg0 tm (Ob D.p1) pv).getD D.p1 undef=pv:=by
    simp only [zg0];rw [Array.getD_eq_getD_getElem?,Array.getElem?_setIfInBounds];simp [hs0,r2]
  have s2:=zgI (P:=P) (fn:=D.fn) (kind:=.deferred) (rnd:=Oe) (tmps:=zg0 tm (Ob D.p1) pv) (ds:=[]) (k:=[.code D.rest]) (cs:=c2::cs) (w:=w) (ops:=#[D.rop,D.mop]) (i:=1) (is:=[]) (o:=D.mop) (nx:=.value pv) (v:=pv) (w':=w) rfl
    (by unfold Region.wanted; rw [m3]) (by rw [m4]; rfl) (by
      unfold execOp;rw [m4];show Result.ok (Next.value ((zg0 tm (Ob D.p1) pv).getD D.p1 undef)) w=_;rw [hp1]) (.inl rfl)
  rw [m1] at s2;have hfr:ziL V (Tr.set (Tr.set (zbk 0 vs .leaf) D.p1 v) D.p2 v) (zg0 (zg0 tm (Ob D.p1) pv) (Ob D.p2) pv):=by
    have h1:=hrel0.putDst (dst:=Ob D.p1) (λd hd=>by cases hd; rw [hs0]; exact r2) hpv;exact h1.putDst (dst:=Ob D.p2) (λd hd=>by cases hd; rw [zdR,hs0]; exact m2) hpv
  obtain ⟨e',tmps',ds',w',V',post,_,hland⟩:=hrun _ _ _ _ _ _ hl D.cn hD.rest V w [] Oe _ ⟨by rw [zdR,zdR]; exact hs0,hfr,hr,(λd hd=>by cases hd),.nil,(λl' e=>by cases e),.inl rfl⟩ D.fn .deferred [] (c2::cs) _ (.inl rfl);have hex:=post.exit;cases e'<;>try exact hex.elim
  have hst:step P (lone (fat D.fn .deferred Oe tmps' ds' []) (c2::cs) w')=.next (lone { fat D.fn .deferred Oe tmps' ds' [] with mode:=.returning } (c2::cs) w'):=step_lone_go (by simp [stepG,stepG.exec,fat]);obtain ⟨w2,u1,u2,u3,u4,u5,u6⟩:=zha (P:=P) (fr:={ fat D.fn .deferred Oe tmps' ds' [] with mode:=.returning }) (.inl rfl) (c2::cs) ds' w' post.marks post.dsnd;obtain ⟨news,en,hn⟩:=post.dsnew;rw [List.append_nil] at en;subst en;have hres:(results G tmps').run P w2=.ok (.tuple #[]) w2:=by
    rw [ziS,Array.mapM_eq_mapM_toList,hGr];simp [Sem.run_pure]
  have s3:=step_going_returned (P:=P) (fr:={ { fat D.fn .deferred Oe tmps' ds' [] with mode:=.returning } with defers:=[] }) (c:=c2) (cs:=cs) (w:=w2) (v:=.tuple #[]) rfl ⟨rfl,rfl,G,hG,hres⟩;rw [hset] at s3;exact ⟨V',w2,post.heap.unmark post.marks u2 u6,post.trans.unmark hn u2 u3 u4 u5 u6,.head zlu (.head zke (.head s1 (.head s2 (.head zfu (Steps.trans hland (.head hst (Steps.trans u1 (.one s3))))))))⟩
theorem zrS {run:Runner} (hrun:RunOk P base run) {n:Nat}:∀ (l:List Code) (z:Code) (fr:zg) (h:za) (e:zaC) (fr':zg) (h':za),aseqs run l fr h=Ob (e,fr',h')->(e=.normal\/e=.ret)->l.all (zcC n)=Od ->
    ∀ (V:Emb) (w:World) (ds:List Deferred) (tmps:Array Value),Pre base V h w ds Oe n fr tmps->∀ (fn:FuncId) (kind:CallKind) (k:List Item) (cs:List Frame),∃ e' tmps' ds' w' V',Post base V h w ds n e fr' h' e' tmps' ds' w' V' /\
      Lands P (lone (fat fn kind Oe tmps ds (.code (l.foldr Code.seq z)::k)) cs w) fn kind Oe (.code z::k) cs e' tmps' ds' w'
  | [],z,fr,h,e,fr',h',hl,_,_,V,w,ds,tmps,pre,fn,kind,k,cs=>by
    simp only [aseqs] at hl;cases hl;exact ⟨.normal,tmps,ds,w,V,⟨trivial,pre.size,pre.frame,pre.heap,.refl _ _ _,pre.dsok,⟨[],rfl,by simp⟩,pre.dsnd⟩,.refl _ _⟩
  | c::l,z,fr,h,e,fr',h',hl,he,hc,V,w,ds,tmps,pre,fn,kind,k,cs=>by
    simp only [aseqs] at hl;rw [List.all_cons,Bool.and_eq_true] at hc;cases h1:run c fr h with
    | none=>rw [h1] at hl; cases hl
    | some out=>
      obtain ⟨e1,fr1,ha1⟩:=out;rw [h1] at hl;obtain ⟨e',tmps1,ds1,w1,V1,p1,n1,l1⟩:=hrun _ _ _ _ _ _ h1 n hc.1 V w ds Oe tmps pre fn kind (.code (l.foldr Code.seq z)::k) cs _ (.inl rfl);have hex:=p1.exit;by_cases hn:e1=.normal
      · subst hn;cases e'<;>try exact hex.elim
        simp only at hl;obtain ⟨e2,tmps2,ds2,w2,V2,p2,l2⟩:=zrS hrun l z _ _ _ _ _ hl he hc.2 V1 w1 ds1 tmps1 (pre.post p1 n1) fn kind k cs;exact ⟨e2,tmps2,ds2,w2,V2,p1.andThen p2,Lands.of_steps (.head zlu l1) l2⟩
      · have hq:Ob (e1,fr1,ha1)=Ob (e,fr',h'):=by
          cases e1<;>first | (exact absurd rfl hn) | exact hl
        cases hq;rcases he with rfl | rfl
        · exact absurd rfl hn
        · cases e'<;>try exact hex.elim
          obtain ⟨k2,l1⟩:=l1;exact ⟨.ret,tmps1,ds1,w1,V1,p1,k2,.head zlu l1⟩
include ok in
theorem zzp {run:Runner} (hrun:RunOk P base run) {f:FuncId} {D:zen} (hD:zwQ P f D) {args:List zb} {h:za} {r:zhT} {h':za} (hl:zjp T run D args h=Ob (r,h')) {V:Emb} {w:World} {args':Array Value}
    (ha:zcB V args args'.toList) (hr:zeH base V h w) :
    (∃ F, P.funcs[f]? = some F ∧ (F.name == "runtime.NumGoroutine") = false ∧ F.body.isSome = true) ∧ Calls P f args' w (zqT base V h w r h') := by
  obtain ⟨F,hPF,hname,hFn,hFr,hFb⟩:=hD.fn;refine ⟨⟨F,hPF,hname,by rw [hFb]; rfl⟩,fun cs=>?_⟩;unfold zjp at hl;cases hbl:Nat.blt D.ntmps args.length with
  | true=>rw [hbl] at hl; cases hl
  | false=>
  rw [hbl] at hl;simp only [cond_false] at hl;have hlen:args.length≤D.ntmps:=by
    have:¬ D.ntmps<args.length:=by
      intro hh;have:Nat.blt D.ntmps args.length=Od:=by rw [Nat.blt_eq]; exact hh
      rw [hbl] at this; cases this
    omega
  have hsz:args'.size=args.length:=by rw [ha.1]; simp
  have henter:Frame.enter P f args' .normal=fat f .normal Oe (args'++Array.replicate (D.ntmps-args'.size) undef) [] [.code (D.pre.foldr Code.seq (.seq (.region D.id #[D.mko,D.dfr] Oc) D.post))]:=by
    simp [Frame.enter,fat,hPF,hFb,hFn]
  have hpre:Pre base V h w [] Oe D.ntmps (zbk 0 args .leaf) (args'++Array.replicate (D.ntmps-args'.size) undef):=
    ⟨by simp; omega,zl9 ha _,hr,(fun d hd=>by cases hd),.nil,(fun l' e=>by cases e),.inl rfl⟩
  rw [henter];generalize args'++Array.replicate (D.ntmps-args'.size) undef=tm at hpre ⊢;cases hs:aseqs run D.pre (zbk 0 args .leaf) h with
  | none=>rw [hs] at hl; cases hl
  | some out=>
  obtain ⟨e,fr1,h1⟩:=out;rw [hs] at hl;have hee:e=.normal∨e=.ret:=by cases e<;>first | exact .inl rfl | exact .inr rfl | cases hl
  obtain ⟨e',tmps1,ds1,w1,V1,p1,l1⟩:=zrS hrun D.pre _ _ _ _ _ _ hs hee hD.pre V w [] tm hpre f .normal [] cs;have hex:=p1.exit;obtain ⟨news1,en1,hn1⟩:=p1.dsnew;rw [List.append_nil] at en1;subst en1;rcases hee with rfl | rfl;rotate_left
  · -- an early return
    cases e'<;>try exact hex.elim
    simp only at hl;obtain ⟨rfl,vs,hres,rfl⟩:=zma hl;obtain ⟨k2,l1⟩:=l1;obtain ⟨w2,u1,u2,u3,u4,u5,u6⟩:=zha (P:=P) (fr:={ fat f .normal Oe tmps1 ds1 (.code .ret::k2) with mode:=.returning }) (.inl rfl) cs ds1 w1 p1.marks p1.dsnd;have hst:step P (lone (fat f .normal Oe tmps1 ds1 (.code .ret::k2)) cs w1)=.next (lone { fat f .normal Oe tmps1 ds1 (.code .ret::k2) with mode:=.returning } cs w1):=step_lone_go (by simp [stepG,stepG.exec,fat]);exact zwj ok hPF hFr hres p1.frame (p1.heap.unmark p1.marks u2 u6) (p1.trans.unmark hn1 u2 u3 u4 u5 u6) (Steps.trans l1 (.head hst u1))
  · cases e'<;>try exact hex.elim
    simp only at hl;have pre1:=hpre.post p1 (.inl rfl);obtain ⟨k1,k2,k3,k4⟩:=hD.mko;obtain ⟨d1,d2,c,d3,d4,d5⟩:=hD.dfr
    -- the closure is made
    cases hmk:aop T fr1.op h1 D.mko.op with
    | none=>rw [hmk] at hl; cases hl
    | some an=>
    rw [hmk] at hl;cases an with
    | call _ _=>cases hl
    | val x h2=>
    simp only at hl;obtain ⟨nx,x',w2,V2,q1,q2,q3,q4,q5⟩:=zrO ok (o:=D.mko) pre1.heap.toH0 (fun _=>pre1.heap.none_next) (fun y=>zih pre1.frame y) hmk;have hr2:=q4.toH q5 pre1.heap;have s1:=zgI (P:=P) (fn:=f) (kind:=.normal) (rnd:=Oe) (tmps:=tmps1) (ds:=ds1) (k:=[.code D.post]) (cs:=cs) (w:=w1) (ops:=#[D.mko,D.dfr]) (i:=0) (is:=[1]) (o:=D.mko) rfl (by unfold Region.wanted; rw [k3]) k4 q1 q2;rw [k1] at s1;have hfr2:ziL V2 (Tr.set fr1 D.tmp x) (zg0 tmps1 (Ob D.tmp) x'):=(pre1.frame.mono q5.ext).putDst (dst:=Ob D.tmp) (fun d hd=>by cases hd; rw [pre1.size]; exact k2) q3;have hx':(zg0 tmps1 (Ob D.tmp) x').getD D.tmp undef=x':=by
      simp only [zg0];rw [Array.getD_eq_getD_getElem?,Array.getElem?_setIfInBounds];simp [pre1.size,k2]
    -- what it comes to
    obtain ⟨v,fr3,h3,vs,hpost,hclo,hres,rfl⟩:∃ v fr3 h3 vs,((run D.post (Tr.set fr1 D.tmp x) h2=Ob (.ret,fr3,h3)∧v=.ni)∨run D.post (Tr.set fr1 D.tmp x) h2=Ob (.pan v,fr3,h3))∧aclose run D x v h3=Ob h'∧aresults T D.results fr3 h'=Ob vs∧r=.ret (packed vs):=by
      split at hl
      · rename_i hh; obtain ⟨a1,vs,a2,a3⟩:=zgo hl; exact ⟨_,_,_,vs,.inl ⟨hh,rfl⟩,a1,a2,a3⟩
      · rename_i hh; obtain ⟨a1,vs,a2,a3⟩:=zgo hl; exact ⟨_,_,_,vs,.inr hh,a1,a2,a3⟩
      · cases hl
    obtain ⟨first,captured,fr4,rfl,hcn,hrest⟩:∃ first captured fr4,x=.func (.func D.fn) first captured∧(first++captured).length≤D.cn∧run D.rest (Tr.set (Tr.set (zbk 0 (first++captured) .leaf) D.p1 v) D.p2 v) h3=Ob (.normal,fr4,h'):=by
      unfold aclose at hclo;split at hclo
      · rename_i g first captured
        cases hb:Nat.beq g D.fn&&Nat.ble (first++captured).length D.cn with
        | false=>rw [hb] at hclo; cases hclo
        | true=>
          rw [hb] at hclo;simp only [cond_true] at hclo;rw [Bool.and_eq_true] at hb;have hg:=Nat.eq_of_beq_eq_true hb.1;subst hg;split at hclo
          · rename_i hh; cases hclo; exact ⟨first,captured,_,rfl,Nat.le_of_ble_eq_true hb.2,hh⟩
          · cases hclo
      · cases hclo
    have hxr:=q3;cases q3 with
    | func _ fn' _ _ f2 c2 hfn hfl hcl hfs hcs=>
    rcases hfn with ⟨_,_,e,_⟩ | ⟨g',e,rfl⟩
    · cases e
    cases e;have g1:zcB V2 first f2.toList:=⟨by simpa using hfl,fun i v v' a b=>hfs i v v' a (by simpa using b)⟩
    have g2:zcB V2 captured c2.toList:=⟨by simpa using hcl,fun i v v' a b=>hcs i v v' a (by simpa using b)⟩;have g3:zcB V2 (first++captured) ((f2++#[])++c2).toList:=by
      simp only [Array.toList_append,Array.append_empty];exact g1.append g2
    -- it is deferred
    have s2:step P (lone (fat f .normal Oe (zg0 tmps1 (Ob D.tmp) (.func (.func D.fn) f2 c2)) ds1 (.inRegion #[D.mko,D.dfr] [1]::[.code D.post])) cs w2)=.next (lone (fat f .normal Oe (zg0 tmps1 (Ob D.tmp) (.func (.func D.fn) f2 c2)) ({ target:=.fn (.func D.fn) c2,args:=f2++#[] }::ds1) (.inRegion #[D.mko,D.dfr] []::[.code D.post])) cs w2):=by
      have he:=zjP f .normal Oe (zg0 tmps1 (Ob D.tmp) (.func (.func D.fn) f2 c2)) ds1 (.inRegion #[D.mko,D.dfr] [1]::[.code D.post]);refine step_lone_go ?_;have hw1:Region.wanted D.dfr (yielded #[D.mko,D.dfr] (zg0 tmps1 (Ob D.tmp) (.func (.func D.fn) f2 c2)))=Od:=by unfold Region.wanted; rw [d2]
      have hrun1:(execOp (evT (zg0 tmps1 (Ob D.tmp) (.func (.func D.fn) f2 c2))) D.dfr).run P w2=.ok (.defer { target:=.fn (.func D.fn) c2,args:=f2++#[] }) w2:=by
        unfold execOp;rw [d3];simp only [resolve,d4,d5,evT,hx',Array.map_empty,Deferred.ofValue,Sem.run_bind,Sem.run_pure,Result.andThen_ok]
      simp only [fat] at he hw1 hrun1 ⊢;simp [stepG,stepG.exec,stepG.oper,Frame.oper?,hw1,he,d3,stepG.apply,hrun1,Frame.finish,d1]
    have dnew:∀ r,({ target:=.fn (.func D.fn) c2,args:=f2++#[] }:Deferred)≠{ target:=.collected r,args:=#[] }:=fun r e=>by simp at e
    have tr2:Trans V h w V2 h2 w2:=p1.trans.trans q5;have dk2:zoM ({ target:=.fn (.func D.fn) c2,args:=f2++#[] }::ds1) w2:=by
      intro d hd;rcases List.mem_cons.1 hd with rfl | hd
      · exact .inr dnew
      · exact (p1.dsok.trans pre1.heap q5) d hd
    have hpre2:Pre base V2 h2 w2 ({ target:=.fn (.func D.fn) c2,args:=f2++#[] }::ds1) Oe D.ntmps (Tr.set fr1 D.tmp (.func (.func D.fn) first captured)) (zg0 tmps1 (Ob D.tmp) (.func (.func D.fn) f2 c2)):=
      ⟨by rw [zdR]; exact pre1.size,hfr2,hr2,dk2,List.pairwise_cons.2 ⟨fun d hd e=>by
        obtain ⟨r,e2,_⟩:=hn1 d hd;exact dnew r (e.trans e2),p1.dsnd⟩,(fun l' e=>by cases e),.inl rfl⟩
    have s0:Steps P (lone (fat f .normal Oe tm [] [.code (D.pre.foldr Code.seq (.seq (.region D.id #[D.mko,D.dfr] Oc) D.post))]) cs w) (lone (fat f .normal Oe (zg0 tmps1 (Ob D.tmp) (.func (.func D.fn) f2 c2)) ({ target:=.fn (.func D.fn) c2,args:=f2++#[] }::ds1) [.code D.post]) cs w2):=
      Steps.trans l1 (.head zlu (.head zke (.head s1 (.head s2 (.one zfu)))))
    obtain ⟨G,hG,hGname,_,_,hGb⟩:=hD.clo
    -- what is done at the end,whichever it is
    have key:∀ (md:FrameMode) (todo:List Item) (tmps3:Array Value) (ds3:List Deferred) (w3:World) (V3:Emb),ziL V3 fr3 tmps3->zeH base V3 h3 w3->Trans V2 h2 w2 V3 h3 w3->zoM ds3 w3->(∃ news,ds3=news++({ target:=.fn (.func D.fn) c2,args:=f2++#[] }::ds1)∧∀ d∈news,∃ r,d={ target:=.collected r,args:=#[] }∧w2.heap.size≤r)->ziR ds3 ->
        ((md=.returning∧v=.ni)∨∃ pv,md=.panicking [{ v:=pv,recovered:=Oc }]∧zag V3 v pv) ->
        Steps P (lone (fat f .normal Oe tm [] [.code (D.pre.foldr Code.seq (.seq (.region D.id #[D.mko,D.dfr] Oc) D.post))]) cs w) (lone { fat f .normal Oe tmps3 ds3 todo with mode:=md } cs w3) ->
        ∃ e w2 fr2,zqT base V h w (.ret (packed vs)) h' e w2∧Comes P (lone (fat f .normal Oe tm [] [.code (D.pre.foldr Code.seq (.seq (.region D.id #[D.mko,D.dfr] Oc) D.post))]) cs w) (lone fr2 cs w2) e∧fr2.fn=f∧fr2.leaving P w2 e:=by
      intro md todo tmps3 ds3 w3 V3 f3 r3 t3 ok3 new3 nd3 hmd st3;obtain ⟨news3,rfl,hn3⟩:=new3;have hmr:md=.returning∨∃ ch,md=.panicking ch:=hmd.imp (fun q=>q.1) (fun ⟨pv,q,_⟩=>⟨_,q⟩);have hpw:=List.pairwise_append.1 nd3;have mk3:zig news3 w3:=zoM.marks (fun d hd=>ok3 d (List.mem_append_left _ hd)) hn3;obtain ⟨w4,u1,u2,u3,u4,u5,u6⟩:=zkf (P:=P) (fr:={ fat f .normal Oe tmps3 (news3++({ target:=.fn (.func D.fn) c2,args:=f2++#[] }::ds1)) todo with mode:=md }) hmr cs ({ target:=.fn (.func D.fn) c2,args:=f2++#[] }::ds1) news3 w3 mk3 hpw.1;have r4:=r3.unmark mk3 u2 u6;have t4:Trans V h w V3 h3 w4:=(tr2.trans t3).unmark (fun d hd=>let ⟨r,a,b⟩:=hn3 d hd; ⟨r,a,Nat.le_trans tr2.size b⟩) u2 u3 u4 u5 u6;have mk4:zig ds1 w4:=by
        intro d hd;obtain ⟨r,e1,e2⟩:=zoM.marks (ds:=ds1) (fun d hd=>ok3 d (List.mem_append_right _ (List.mem_cons_of_mem _ hd))) hn1 d hd;refine ⟨r,e1, ?_⟩;rw [u6 r (fun d' hd' e=>hpw.2.2 d' hd' d (List.mem_cons_of_mem _ hd) (e.trans e1.symm))];exact e2
      have sd:=step_defer (P:=P) (fr:={ { fat f .normal Oe tmps3 (news3++({ target:=.fn (.func D.fn) c2,args:=f2++#[] }::ds1)) todo with mode:=md } with defers:={ target:=.fn (.func D.fn) c2,args:=f2++#[] }::ds1 }) (cs:=cs) (w:=w4) (d:={ target:=.fn (.func D.fn) c2,args:=f2++#[] }) (ds:=ds1) (fv:=.func D.fn) (cap:=c2) (f:=D.fn) (args:=(f2++#[])++c2)
        (by rcases hmr with rfl | ⟨ch,rfl⟩<;>simp) rfl rfl (by simp only [invoke]; exact zhb hG hGname (by rw [hGb]; rfl) _ w4)
      obtain ⟨V5,w5,r5,t5,st5⟩:=zur hrun hD hcn hrest (g3.mono t3.ext) r4 { { fat f .normal Oe tmps3 (news3++({ target:=.fn (.func D.fn) c2,args:=f2++#[] }::ds1)) todo with mode:=md } with defers:=ds1 } hmd cs;have mk5:zig ds1 w5:=zoM.marks (zoM.trans r4 t5 (fun d hd=>.inl (mk4 d hd))) hn1;obtain ⟨w6,v1,v2,v3,v4,v5,v6⟩:=zha (P:=P) (fr:={ fat f .normal Oe tmps3 ds1 todo with mode:=.returning }) (.inl rfl) cs ds1 w5 mk5 p1.dsnd;exact zwj ok hPF hFr hres (f3.mono t5.ext) (r5.unmark mk5 v2 v6) ((t4.trans t5).unmark hn1 v2 v3 v4 v5 v6) (Steps.trans st3 (Steps.trans u1 (.head sd (Steps.trans st5 v1))))
    rcases hpost with ⟨hh,rfl⟩ | hh
    · obtain ⟨e',tmps3,ds3,w3,V3,p3,_,l3⟩:=hrun _ _ _ _ _ _ hh D.ntmps hD.post V2 w2 _ Oe _ hpre2 f .normal [] cs _ (.inl rfl);have hex:=p3.exit;cases e'<;>try exact hex.elim
      obtain ⟨k2,l3⟩:=l3;have hst:step P (lone (fat f .normal Oe tmps3 ds3 (.code .ret::k2)) cs w3)=.next (lone { fat f .normal Oe tmps3 ds3 (.code .ret::k2) with mode:=.returning } cs w3):=step_lone_go (by simp [stepG,stepG.exec,fat]);exact key .returning _ tmps3 ds3 w3 V3 p3.frame p3.heap p3.trans p3.dsok p3.dsnew p3.dsnd (.inl ⟨rfl,rfl⟩) (Steps.trans s0 (Steps.trans l3 (.one hst)))
    · obtain ⟨e',tmps3,ds3,w3,V3,p3,_,l3⟩:=hrun _ _ _ _ _ _ hh D.ntmps hD.post V2 w2 _ Oe _ hpre2 f .normal [] cs _ (.inl rfl);have hex:=p3.exit;cases e'<;>try exact hex.elim
      rename_i pv;obtain ⟨k2,_,l3⟩:=l3;exact key _ _ tmps3 ds3 w3 V3 p3.frame p3.heap p3.trans p3.dsok p3.dsnew p3.dsnd (.inr ⟨pv,rfl,hex⟩) (Steps.trans s0 l3)
include ok in
theorem zwY {run:Runner} (hrun:RunOk P base run) {f:FuncId} {args:List zb} {h:za} {r:zhT} {h':za} (hl:zeL T run f args h=Ob (r,h')) {V:Emb} {w:World} {args':Array Value}
    (ha:zcB V args args'.toList) (hr:zeH base V h w) :
    (∃ F, P.funcs[f]? = some F ∧ (F.name == "runtime.NumGoroutine") = false ∧ F.body.isSome = true) ∧ Calls P f args' w (zqT base V h w r h') := by
  unfold zeL at hl;split at hl
  case h_2=>
    split at hl
    · rename_i D hDf;exact zzp ok hrun (ok.defs f D hDf) hl ha hr
    · cases hl
  rename_i F hF;obtain ⟨hPF,hname,hcode⟩:=ok.funcs f F hF;cases hbl:Nat.blt F.ntmps args.length with
  | true=>rw [hbl] at hl; cases hl
  | false=>
  rw [hbl] at hl;simp only [cond_false] at hl;have hlen:args.length≤F.ntmps:=by
    have:¬ F.ntmps<args.length:=by
      intro hh;have:Nat.blt F.ntmps args.length=Od:=by rw [Nat.blt_eq]; exact hh
      rw [hbl] at this; cases this
    omega
  split at hl
  case h_2=>cases hl
  rename_i c hc;refine ⟨⟨F,hPF,hname,by rw [hc]; rfl⟩, ?_⟩;have hcok:=hcode c hc;have hsz:args'.size=args.length:=by rw [ha.1]; simp
  intro cs;have henter:Frame.enter P f args' .normal=fat f .normal Oe (args'++Array.replicate (F.ntmps-args'.size) undef) [] [.code c]:=by
    simp [Frame.enter,fat,hPF,hc]
  have hpre:Pre base V h w [] Oe F.ntmps (zbk 0 args .leaf) (args'++Array.replicate (F.ntmps-args'.size) undef):=
    ⟨by simp; omega,zl9 ha _,hr,(fun d hd=>by cases hd),.nil,(fun l' e=>by cases e),.inl rfl⟩
  rw [henter]
  -- the frame that returns
  have finish:∀ (fr':zg) (e:zaC) (vs:List zb) (e':zk7) (tmps':Array Value) (ds':List Deferred) (w':World) (V':Emb) (todo:List Item),aresults T F.results.toList fr' h'=Ob vs ->
      Post base V h w [] F.ntmps e fr' h' e' tmps' ds' w' V'->Steps P (lone (fat f .normal Oe (args'++Array.replicate (F.ntmps-args'.size) undef) [] [.code c]) cs w) (lone { fat f .normal Oe tmps' ds' todo with mode:=.returning } cs w') ->
      ∃ e w2 fr2,zqT base V h w (.ret (packed vs)) h' e w2∧Comes P (lone (fat f .normal Oe (args'++Array.replicate (F.ntmps-args'.size) undef) [] [.code c]) cs w) (lone fr2 cs w2) e∧fr2.fn=f∧fr2.leaving P w2 e:=by
    intro fr' e vs e' tmps' ds' w' V' todo hres post hsteps;obtain ⟨w2,u1,u2,u3,u4,u5,u6⟩:=zha (P:=P) (fr:={ fat f .normal Oe tmps' ds' todo with mode:=.returning }) (.inl rfl) cs ds' w' post.marks post.dsnd;have hr2:zeH base V' h' w2:=post.heap.unmark post.marks u2 u6;obtain ⟨vs',hv1,hv2⟩:=ziT (P:=P) ok hr2 post.frame F.results.toList vs hres;have hrun2:(results F tmps').run P w2=.ok (if h:vs'.toArray.size=1 then vs'.toArray[0] else .tuple vs'.toArray) w2:=by
      rw [ziS,Array.mapM_eq_mapM_toList];simp only [Sem.run_bind,Sem.run_map,hv1,Result.andThen_ok,Sem.run_pure]
    obtain ⟨news,en,hn⟩:=post.dsnew;refine ⟨.returned _,w2,{ fat f .normal Oe tmps' [] todo with mode:=.returning },⟨V',hr2, ?_,.inl ⟨_,_,rfl,rfl,zly hv2⟩⟩,hsteps.trans u1,rfl,⟨rfl,rfl,rfl,F,hPF,hrun2⟩⟩;refine ⟨post.trans.ext,by rw [u2]; exact post.trans.size,fun k hk hb=>?_,post.trans.own,u3.trans post.trans.os,u4.trans post.trans.tape,u5.trans post.trans.output,post.trans.loops,post.trans.next,post.trans.dom,post.trans.junk⟩;rw [u6 k ?_]
    · exact post.trans.frame k hk hb
    · intro d hd e;have hd':d∈news:=by rw [en] at hd; simpa using hd
      obtain ⟨r,e2,hr⟩:=hn d hd';rw [e] at e2;simp at e2;omega
  cases hrn:run c (zbk 0 args .leaf) h with
  | none=>rw [hrn] at hl; cases hl
  | some out=>
    obtain ⟨e,fr',h2⟩:=out;rw [hrn] at hl;obtain ⟨e',tmps',ds',w',V',post,hnds,hland⟩:=hrun _ _ _ _ _ _ hrn F.ntmps hcok V w [] Oe _ hpre f .normal [] cs _ (.inl rfl);cases e with
    | normal=>
      simp only at hl;cases hres:aresults T F.results.toList fr' h2 with
      | none=>rw [hres] at hl; cases hl
      | some vs=>
        rw [hres] at hl;cases hl;have hex:=post.exit;cases e'<;>try exact hex.elim
        have hst:step P (lone (fat f .normal Oe tmps' ds' []) cs w')=.next (lone { fat f .normal Oe tmps' ds' [] with mode:=.returning } cs w'):=step_lone_go (by simp [stepG,stepG.exec,fat]);exact finish fr' .normal vs .normal tmps' ds' w' V' [] hres post (Steps.trans hland (.one hst))
    | ret=>
      simp only at hl;cases hres:aresults T F.results.toList fr' h2 with
      | none=>rw [hres] at hl; cases hl
      | some vs=>
        rw [hres] at hl;cases hl;have hex:=post.exit;cases e'<;>try exact hex.elim
        obtain ⟨k2,hk2⟩:=hland;have hst:step P (lone (fat f .normal Oe tmps' ds' (.code .ret::k2)) cs w')=.next (lone { fat f .normal Oe tmps' ds' (.code .ret::k2) with mode:=.returning } cs w'):=step_lone_go (by simp [stepG,stepG.exec,fat]);exact finish fr' .ret vs .ret tmps' ds' w' V' _ hres post (Steps.trans hk2 (.one hst))
    | pan v=>
      simp only at hl;cases hl;have hex:=post.exit;cases e'<;>try exact hex.elim
      rename_i v';obtain ⟨k2,_,hk2⟩:=hland;obtain ⟨w2,u1,u2,u3,u4,u5,u6⟩:=zha (P:=P) (fr:={ fat f .normal Oe tmps' ds' k2 with mode:=.panicking [{ v:=v',recovered:=Oc }] }) (.inr ⟨_,rfl⟩) cs ds' w' post.marks post.dsnd;obtain ⟨news,en,hn⟩:=post.dsnew;refine ⟨.panicked [{ v:=v',recovered:=Oc }],w2,{ fat f .normal Oe tmps' [] k2 with mode:=.panicking [{ v:=v',recovered:=Oc }] },⟨V',post.heap.unmark post.marks u2 u6, ?_,.inr ⟨v,v',rfl,rfl,hex⟩⟩,hk2.trans u1,rfl,⟨rfl,rfl,F,hPF⟩⟩;refine ⟨post.trans.ext,by rw [u2]; exact post.trans.size,fun k hk hb=>?_,post.trans.own,u3.trans post.trans.os,u4.trans post.trans.tape,u5.trans post.trans.output,post.trans.loops,post.trans.next,post.trans.dom,post.trans.junk⟩;rw [u6 k ?_]
      · exact post.trans.frame k hk hb
      · intro d hd e;have hd':d∈news:=by rw [en] at hd; simpa using hd
        obtain ⟨r,e2,hr⟩:=hn d hd';rw [e] at e2;simp at e2;omega
    | exit id=>simp at hl
    | goto l=>simp at hl
end
end Go.Ai