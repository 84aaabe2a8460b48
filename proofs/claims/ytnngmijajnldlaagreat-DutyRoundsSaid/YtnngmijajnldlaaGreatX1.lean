/- An abstract interpreter for the model's code: append,copy,len,maps,max and min. -/
import Derived.Test.YtnngmijajnldlaaGreatX0
import Derived.Lib.AppendZeros
import Derived.Calls
set_option linter.unusedSimpArgs false
set_option linter.unusedVariables false
set_option linter.unusedSectionVars false
open Option renaming some→Ob,none→Oe
open Bool renaming false→Oc,true→Od
open Option renaming bind->Zb,bind_some->Zs
namespace Go.Ai
section
variable {T:Tab} {P:Program} (ok:T.Ok P) {base:Nat} {G:Emb} {h:za} {w:World}
theorem zvS {es n:Nat} {x:zd} {x':Value} {news:List zd} (hr:H0 base G h w) (hx:zal G x x') (hes:0<es) (hl:arow es n x h=Ob news) :
 news.length=n*es/\∃ news',zcL G news news' /\
  ((x'=.slice Oe 0 0/\n=0/\news'=[])\/∃ a len c,x'=.slice (Ob a) len c/\n<=len/\(x=.nsz->False)/\∀ (w':World),w'.heap=w.heap->∀ j v,news'[j]?=Ob v->w'.cell? (a.add j)=Ob v):=by
 unfold arow at hl;split at hl
 . split at hl
   . rename_i hn; cases hl; subst hn;cases hx;exact ⟨by simp,[],.nil _,.inl ⟨rfl,rfl,rfl⟩⟩
   . cases hl
 . rename_i b off len es' cap;split at hl
   . rename_i hn0;split at hl
     case isFalse=>cases hl
     rename_i hes';cases hl;subst hn0 hes';cases hx with
     | slice _ _ _ _ _ l a0 ccap hb hlen hcap hoff=>
     exact ⟨by simp,[],.nil _,.inr ⟨_,len,ccap,rfl,Nat.zero_le _,by simp,by simp⟩⟩
   rename_i hn0;split at hl
   case isFalse=>cases hl
   rename_i hc;obtain ⟨rfl,hn⟩:=hc;split at hl
   case h_2=>cases hl
   rename_i cells ro hg;split at hl
   case isFalse=>cases hl
   rename_i hle;cases hl;cases hx with
   | slice _ _ _ _ _ l a0 ccap hb hlen hcap hoff=>
   obtain ⟨cc,el,fz,h1,h2,h3,h4,h5⟩:=zm6 hr hb hg;refine ⟨by simp; omega,(cc.toList.drop (l.o+off)).take (n*es'),zgX h4 off _ hle J,.inr ⟨_,len,ccap,rfl,hn,by simp, ?_⟩⟩;intro w' hw j v hv;rcases hoff with h0 | ⟨h6,h7⟩
   . have:n=0:=J
     subst this;simp at hv
   . subst h6;have:=zgY w' l.c (l.o+off) (n*es') cc el fz (by rw [hw]; exact h1) j v hv;exact this
 . cases hl
include ok in
theorem zt5 {st xt ty:TypeId} {s x v:zd} {s' x':Value} {h':za} (hr:H0 base G h w) (hfr:h'.next≠h.next->G h.next=Oe) (hs:zal G s s') (hx:zal G x x') (hl:azeros T st xt s x h=Ob (v,h')) :
 VOk P base G h w (Builtin.append_ #[st,xt] ty #[s',x']) v h':=by
 unfold azeros at hl;split at hl
 case h_2=>cases hl
 rename_i elem n hux hus;split at hl
 case h_2=>cases hl
 rename_i i hi;obtain ⟨_,j,hj,hjs,hjb,hjz,_⟩:=ok.types elem i hi;split at hl
 case h_2=>cases hl
 rename_i z hz;have hiz:i.zero=Ob z:=by unfold zeS at hz; rw [hi] at hz; exact hz
 obtain ⟨zv,hz1,hz2⟩:=hjz z hiz;split at hl
 . cases hl
 rename_i hes;split at hl
 case isFalse=>cases hl
 rename_i hb;obtain ⟨hn0,hbytes,hmax⟩:=hb;cases hl;cases hs;cases hx;have hes0:0<i.size:=J
 have hzl:z.cells.length=i.size:=J
 have hzr:=(zeU G zv z hz2).cells (zhh hz2);have hzc:zv.cells.size=j.size:=by
  have:=hzr.1;simp at this; omega
 obtain ⟨m,rfl⟩:∃ m:Nat,n=(m:Int):=⟨n.toNat,by omega⟩;simp only [Int.toNat_natCast] at hbytes hfr ⊢;have hrun:=Lib.run_append_nil_zeros (P:=P) w st xt ty elem j zv .i64 .i64 (ok.und hus) (ok.und hux) hj hz1 m J J J (by rw [hjb]; omega);generalize hcap:grownCap w m 0 elem=ncap at hrun;have hge:m<=ncap:=by rw [← hcap]; exact grownCap_ge _ _ _ _
 have hsize:(Builtin.zeroCells zv.cells m++Builtin.zeroCells zv.cells (ncap-m)).size=ncap*j.size:=by
  simp only [Array.size_append,size_zeroCells,hzc,← Nat.add_mul]; congr 1; omega
 have hcr:=zlp hzr J m;have hcl:(copies m z.cells).length=(Builtin.zeroCells zv.cells m).size:=by rw [zem,size_zeroCells,hzl,hzc,hjs]
 obtain ⟨a1,a2⟩:=zf8 (cc:=Builtin.zeroCells zv.cells m++Builtin.zeroCells zv.cells (ncap-m)) hr (hfr (by simp [za.next_push])) (cells:=copies m z.cells) (by
  rw [Array.toList_append,List.take_append_of_le_length (by rw [hcl]; simp),List.take_of_length_le (by rw [hcl]; simp)];have e:Builtin.zeroCells zv.cells m=(Array.range (m*z.cells.length)).map (λi=>zv.cells[i%zv.cells.size]!):=by
   unfold Builtin.zeroCells;rw [hzc,hzl,hjs]
  rw [e];exact hcr) (by rw [hsize,zem,hzl,hjs]; exact Nat.mul_le_mul_right _ hge) elem
  (w.drew.alloc (.cells (Builtin.zeroCells zv.cells m++Builtin.zeroCells zv.cells (ncap-m)) elem)) rfl rfl rfl rfl
 refine ⟨_,_,_,hrun, ?_,a1,a2⟩;refine .slice h.next 0 m i.size Oe ⟨w.heap.size,0,_⟩ _ ncap (Emb.add_same _ _ _) hge (λk hk=>by cases hk) (.inr ⟨rfl, ?_⟩);simp only [hsize,hjs]; omega
include ok in
theorem zrr {argTypes:Array TypeId} {ty:TypeId} {s x v:zd} {s' x':Value} {h':za} (hr:H0 base G h w) (hfr:h'.next≠h.next->G h.next=Oe) (hs:zal G s s') (hx:zal G x x') (hl:aappend T argTypes s x h=Ob (v,h')) :
 VOk P base G h w (Builtin.append_ argTypes ty #[s',x']) v h':=by
 unfold aappend at hl;split at hl
 case h_2=>cases hl
 rename_i st xt hat;have hat':argTypes=#[st,xt]:=by apply Array.ext'; simpa using hat
 subst hat';split at hl
 . exact zt5 ok hr hfr hs hx hl
 rename_i hst;simp only [ne_eq,Decidable.not_not] at hst;subst hst;split at hl
 case h_2=>cases hl
 rename_i elem hu;split at hl
 case h_2=>cases hl
 rename_i i hi;obtain ⟨_,j,hj,hjs,hjb,hjz,_⟩:=ok.types elem i hi;simp only at hl;split at hl
 . cases hl
 rename_i z hz;have hiz:i.zero=Ob z:=by unfold zeS at hz; rw [hi] at hz; exact hz
 obtain ⟨zv,hz1,hz2⟩:=hjz z hiz;split at hl
 . cases hl
 rename_i hes;have hes0:0<i.size:=J
 have hzl:z.cells.length=i.size:=J
 have hzc:zv.cells.size=j.size:=by
  have:=((zeU G zv z hz2).cells (zhh hz2)).1;simp at this; omega
 split at hl
 case h_2=>cases hl
 rename_i news hrow;generalize hn:lenOf x=n at hl hrow;obtain ⟨hnl,news',hnr,hcase⟩:=zvS hr hx hes0 hrow;have hnl':news'.length=n*j.size:=by rw [← hnr.1,hnl,hjs]
 split at hl
 . -- s is nil
   cases hs;split at hl
   . rename_i hn0;cases hl;refine ⟨.slice Oe 0 0,w,G, ?_,.nsz,hr,.refl _ _ _⟩;rcases hcase with ⟨rfl,_,_⟩ | ⟨a,len,c,rfl,hle,_,hcell⟩
     . simp [Builtin.append_,zj (ok.und hu),zaj hj,Builtin.lenOf,Builtin.firstCells]
     . have hlen:len=n:=by
        cases hx with
        | undef=>simp [arow] at hrow
        | slice=>exact hn
       subst hlen;subst hn0;have hf:=run_firstCells_some (P:=P) w j.size 0 a 0 c [] Ol Ol;simp [Builtin.append_,zj (ok.und hu),zaj hj,Builtin.lenOf,hf]
   . rename_i hn0;split at hl
     case isFalse=>cases hl
     rename_i hb;cases hl;rcases hcase with ⟨rfl,hq,_⟩ | ⟨a,len,c,rfl,hle,hxn,hcell⟩
     . omega
     have hlen:len=n:=by
      cases hx with
      | undef=>simp [arow] at hrow
      | slice=>exact hn
     subst hlen;have hrun:=run_append_nil (P:=P) w st ty elem j zv (ok.und hu) hj hz1 a len c news' hnl' (hcell w rfl) J J (by rw [hjb]; omega);generalize hcap:grownCap w len 0 elem=ncap at hrun;have hge:len<=ncap:=by rw [← hcap]; exact grownCap_ge _ _ _ _
     have hsize:(news'.toArray++Builtin.zeroCells zv.cells (ncap-len)).size=ncap*j.size:=by
      simp only [Array.size_append,List.size_toArray,size_zeroCells,hzc,hnl',← Nat.add_mul]; congr 1; omega
     obtain ⟨a1,a2⟩:=zf8 (cc:=news'.toArray++Builtin.zeroCells zv.cells (ncap-len)) hr (hfr (by simp [za.next_push])) (cells:=news) (by simpa [hnr.1] using hnr) (by rw [hsize,hnl,hjs]; exact Nat.mul_le_mul_right _ hge) elem
      (w.drew.alloc (.cells (news'.toArray++Builtin.zeroCells zv.cells (ncap-len)) elem)) rfl rfl rfl rfl
     refine ⟨_,_,_,hrun, ?_,a1,a2⟩;refine .slice h.next 0 len i.size Oe ⟨w.heap.size,0,_⟩ _ ncap (Emb.add_same _ _ _) hge (λk hk=>by cases hk) (.inr ⟨rfl, ?_⟩);simp only [hsize,hjs]; omega
 . -- s is a slice
   rename_i b off len es' cap;split at hl
   case isFalse=>cases hl
   rename_i hc;obtain ⟨rfl,hbytes,hmax⟩:=hc;split at hl
   case h_2=>cases hl
   rename_i cells ro hg;have hs2:=hs;cases hs2 with
   | slice _ _ _ _ _ l a0 ccap hb hlen hcap hoff=>
   obtain ⟨cc,el,fz,hw1,hw2,hw3,hw4,hw5⟩:=zm6 hr hb hg
   -- the source,where there is one
   have src:∃ a c,(0<n->x'=.slice (Ob a) n c/\∀ (w':World),w'.heap=w.heap->∀ j v,news'[j]?=Ob v->w'.cell? (a.add j)=Ob v):=by
    rcases hcase with ⟨_,hq,_⟩ | ⟨a,len2,c,rfl,hle,hxn,hcell⟩
    . exact ⟨⟨0,0,Oe⟩,0,λq=>by omega⟩
    . refine ⟨a,c,λ_=>⟨?_,hcell⟩⟩;cases hx with
      | undef=>simp [arow] at hrow
      | slice=>simp only [lenOf] at hn; rw [hn]
   -- n=0: the very slice
   have zero:n=0->(Builtin.append_ #[st,st] ty #[.slice (Ob a0) len ccap,x']).run P w=.ok (.slice (Ob a0) len ccap) w:=by
    intro hn0;rcases hcase with ⟨rfl,_,_⟩ | ⟨a,len2,c,rfl,hle,_,hcell⟩
    . simp [Builtin.append_,zj (ok.und hu),zaj hj,Builtin.lenOf,Builtin.firstCells,hlen,storeCells]
    . have hlen2:len2=0:=by
       cases hx with
       | undef=>simp [arow] at hrow
       | slice=>simp only [lenOf] at hn; omega
      subst hlen2;have hf:=run_firstCells_some (P:=P) w j.size 0 a 0 c [] Ol Ol;simp [Builtin.append_,zj (ok.und hu),zaj hj,Builtin.lenOf,hf,hlen,storeCells]
   -- there is room: in place
   have room:len+n<=ccap->fz=(0,0)->base<=l.c->news.all zd.one=Od->ccap≠0->(Builtin.append_ #[st,st] ty #[.slice (Ob a0) len ccap,x']).run P w =
    .ok (.slice (Ob a0) (len+n) ccap) (w.setRow l.c (cc.toList.take (l.o+(off+len*i.size))++news'++cc.toList.drop (l.o+(off+len*i.size)+news'.length)).toArray):=by
    intro hroom hfz hbase hone hc0;subst hfz;rcases hoff with h0 | ⟨ho,hfit⟩
    . omega
    subst ho;have hst:=run_storeCells_at P l.c (l.o+(off+len*i.size)) el news' 0 cc w hw1 (by
     rw [hnl',hjs];have h1:(len+n)*i.size<=ccap*i.size:=Nat.mul_le_mul_right _ hroom;rw [Nat.add_mul] at h1;omega) (zl9 hnr hone)
    simp only [Nat.add_zero] at hst;by_cases hn0:n=0
    . subst hn0;have e:news'=[]:=List.eq_nil_of_length_eq_zero (by rw [hnl']; simp);subst e;rw [zero rfl];have e2:w.setRow l.c (cc.toList.take (l.o+(off+len*i.size))++[]++cc.toList.drop (l.o+(off+len*i.size)+([]:List Value).length)).toArray=w:=by
       simp only [List.append_nil,List.length_nil,Nat.add_zero,List.take_append_drop,Array.toArray_toList];exact setRow_self w l.c cc el (0,0) hw1
      rw [e2]; rfl
    . obtain ⟨a,c,hsrc⟩:=src;obtain ⟨rfl,hcell⟩:=hsrc J;have hf:=run_firstCells_some (P:=P) w j.size n a n c news' hnl' (hcell w rfl);rw [hjs] at hf;simp [Builtin.append_,zj (ok.und hu),zaj hj,Builtin.lenOf,hroom,hf,Addr.add_lit,hjs,Nat.add_assoc] at hst ⊢;rw [hst];rfl
   -- there is Oe: a new row
   have grow:ccap<len+n->off+len*i.size<=cells.length->∃ v' w' G',(Builtin.append_ #[st,st] ty #[.slice (Ob a0) len ccap,x']).run P w=.ok v' w' /\
    ∀ h2:za,h2.next=h.next->H0 base G h2 w->G h.next=Oe->zal G' (.slice h.next 0 (len+n) i.size Oe) v'/\H0 base G' (h2.push (.arr ((cells.drop off).take (len*i.size)++news) Oc)) w'/\Trans G h2 w G' (h2.push (.arr ((cells.drop off).take (len*i.size)++news) Oc)) w':=by
    intro hg2 hle2;obtain ⟨a,c,hsrc⟩:=src;have hn0:0<n:=J
    obtain ⟨rfl,hcell⟩:=hsrc hn0;have holdl:zcL G ((cells.drop off).take (len*i.size)) ((cc.toList.drop (l.o+off)).take (len*i.size)):=zgX hw4 off _ hle2 J;have hol:((cc.toList.drop (l.o+off)).take (len*i.size)).length=len*j.size:=by rw [← holdl.1,hjs]; simp; omega
    have hold:∀ (w':World),w'.heap=w.heap->∀ j v,((cc.toList.drop (l.o+off)).take (len*i.size))[j]?=Ob v->w'.cell? ((a0:Addr).add j)=Ob v:=by
     intro w' hw' k v hv;rcases hoff with h0 | ⟨h6,h7⟩
     . have:len=0:=J
       subst this;simp at hv
     . subst h6;exact zgY w' l.c (l.o+off) (len*i.size) cc el fz (by rw [hw']; exact hw1) k v hv
    have hrun:=run_append_grow (P:=P) w st ty elem j zv (ok.und hu) hj hz1 a0 len ccap _ hol (hold w rfl) a n c news' hnl' (hcell w rfl) hg2 J (growslice_fits J (by rw [hjb]; omega));generalize hcap:grownCap w (len+n) ccap elem=ncap at hrun;have hge:len+n<=ncap:=by rw [← hcap]; exact grownCap_ge _ _ _ _
    refine ⟨_,_,G.add h.next ⟨w.heap.size,0,(((cc.toList.drop (l.o+off)).take (len*i.size)).toArray++news'.toArray++Builtin.zeroCells zv.cells (ncap-(len+n))).size⟩,hrun,λh2 hn2 hr2 hfr2=>?_⟩;have hsize:(((cc.toList.drop (l.o+off)).take (len*i.size)).toArray++news'.toArray++Builtin.zeroCells zv.cells (ncap-(len+n))).size=ncap*j.size:=by
     simp only [Array.size_append,List.size_toArray,size_zeroCells,hzc,hnl',hol,← Nat.add_mul]; congr 1; omega
    have hrel:=holdl.append hnr;obtain ⟨a1,a2⟩:=zf8 (cc:=((cc.toList.drop (l.o+off)).take (len*i.size)).toArray++news'.toArray++Builtin.zeroCells zv.cells (ncap-(len+n))) hr2 (by rw [hn2]; exact hfr2) (cells:=(cells.drop off).take (len*i.size)++news) (by
     have e:(((cc.toList.drop (l.o+off)).take (len*i.size)).toArray++news'.toArray++Builtin.zeroCells zv.cells (ncap-(len+n))).toList.take ((cells.drop off).take (len*i.size)++news).length=(cc.toList.drop (l.o+off)).take (len*i.size)++news':=by
      rw [hrel.1];simp only [Array.toList_append];exact List.take_left
     rw [e]; exact hrel) (by
     rw [hsize,hrel.1,List.length_append,hol,hnl',← Nat.add_mul];exact Nat.mul_le_mul_right _ hge) elem
     (w.drew.alloc (.cells (((cc.toList.drop (l.o+off)).take (len*i.size)).toArray++news'.toArray++Builtin.zeroCells zv.cells (ncap-(len+n))) elem)) rfl rfl rfl rfl
    rw [hn2] at a1 a2;refine ⟨.slice h.next 0 (len+n) i.size Oe ⟨w.heap.size,0,_⟩ _ ncap (Emb.add_same _ _ _) hge (λk hk=>by cases hk) (.inr ⟨rfl, ?_⟩),a1,a2⟩;simp only [hsize,hjs]; omega
   split at hl
   . -- cap known
     rename_i c;have hcc:=hcap c rfl;subst hcc;split at hl
     . rename_i hroom;split at hl
       case isFalse=>cases hl
       rename_i hcond;obtain ⟨rfl,hle2,hone⟩:=hcond;cases hl;obtain ⟨hfz,hbase⟩:=hw5 rfl;by_cases hc0:ccap=0
       . have h1:len=0:=J
         have h2:n=0:=J
         subst h1 h2;have e:news=[]:=List.eq_nil_of_length_eq_zero (by rw [hnl]; simp);subst e;have ho:Owns h b:=by unfold Owns; rw [hg]; trivial
         have e3:splice cells (off+0*i.size) []=cells:=by unfold splice; simp
         have hblk:=hr.blk b l hb;rw [hg] at hblk;obtain ⟨a1,a2⟩:=zgW hr hb ho (.arr cells Oc) w rfl (λ_ _=>rfl) rfl rfl rfl hblk (by rw [hg]; simp);rw [e3];exact ⟨_,w,G,zero rfl,hs,a1,a2⟩
       . have hrun:=room hroom hfz hbase hone hc0;have hle3:off+len*i.size+news.length<=cells.length:=by rw [hnl]; rw [Nat.add_mul] at hle2; omega
         have ho:Owns h b:=by unfold Owns; rw [hg]; trivial
         subst hfz;obtain ⟨a1,a2⟩:=zgW hr hb ho (.arr (splice cells (off+len*i.size) news) Oc) (w.setRow l.c (cc.toList.take (l.o+(off+len*i.size))++news'++cc.toList.drop (l.o+(off+len*i.size)+news'.length)).toArray)
          Ol (λk hk=>setRow_other w l.c k _ hk) rfl rfl rfl
          ⟨_,el,(0,0),setRow_heap w l.c cc _ el _ hw1,by simp; have:=hnr.1; omega,by rw [zgv hle3]; omega,zlo hw4 J hnr hle3,λ_=>⟨rfl,hbase⟩⟩ (by rw [hg]; simp)
         refine ⟨_,_,G,hrun, ?_,a1,a2⟩;exact .slice b off (len+n) i.size _ l a0 ccap hb hroom hcap hoff
     . rename_i hroom;split at hl
       case isFalse=>cases hl
       rename_i hle2;cases hl;obtain ⟨v',w',G',h1,h2⟩:=grow J hle2;obtain ⟨a1,a2,a3⟩:=h2 h rfl hr (hfr (by simp [za.next_push]));exact ⟨v',w',G',h1,a1,a2,a3⟩
   . -- cap unknown
     split at hl
     case isFalse=>cases hl
     rename_i hcond;obtain ⟨rfl,hle2,hone⟩:=hcond;cases hl;obtain ⟨hfz,hbase⟩:=hw5 rfl;have ho:Owns h b:=by unfold Owns; rw [hg]; trivial
     by_cases hroom:len+n<=ccap
     . -- in place: the block goes over into a new one
       have holdl:zcL G ((cells.drop off).take (len*i.size)) ((cc.toList.drop (l.o+off)).take (len*i.size)):=zgX hw4 off _ hle2 J;by_cases hc0:ccap=0
       . have h1:len=0:=J
         have h2:n=0:=J
         subst h1 h2;have e:news=[]:=List.eq_nil_of_length_eq_zero (by rw [hnl]; simp);subst e;obtain ⟨a1,a2⟩:=zph hr (hfr (by simp [za.next_push,za.next_set])) hb ho (.arr ((cells.drop off).take (0*i.size)++[]) Oc) 0 w rfl (λ_ _=>rfl) rfl rfl rfl
          ⟨cc,el,fz,hw1,hw2,by simp,by simp,λ_=>⟨hfz,hbase⟩⟩ (by rw [hg]; simp)
         refine ⟨_,w,_,zero rfl, ?_,a1,a2⟩;exact .slice h.next 0 0 i.size Oe ⟨l.c,0,l.n⟩ _ ccap (Emb.add_same _ _ _) J (λk hk=>by cases hk) (.inl hc0)
       . have hrun:=room hroom hfz hbase hone hc0;rcases hoff with h0 | ⟨h6,h7⟩
         . omega
         subst hfz h6;have hle3:l.o+off+(len+n)*i.size<=l.n:=by
          have:(len+n)*i.size<=ccap*i.size:=Nat.mul_le_mul_right _ hroom;omega
         rw [Nat.add_mul] at hle3;have hlenr:((cells.drop off).take (len*i.size)++news).length=len*i.size+n*i.size:=by
          rw [List.length_append,holdl.1,hnl]; simp; omega
         obtain ⟨a1,a2⟩:=zph hr (hfr (by simp [za.next_push,za.next_set])) hb ho (.arr ((cells.drop off).take (len*i.size)++news) Oc) (l.o+off) (w.setRow l.c (cc.toList.take (l.o+(off+len*i.size))++news'++cc.toList.drop (l.o+(off+len*i.size)+news'.length)).toArray)
          Ol (λk hk=>setRow_other w l.c k _ hk) rfl rfl rfl
          ⟨_,el,(0,0),setRow_heap w l.c cc _ el _ hw1,by simp; have:=hnr.1; omega,by rw [hlenr]; omega,(by
           intro k v hv;have hrel:=holdl.append hnr;obtain ⟨v',hv',hvv⟩:=hrel.at hv;refine ⟨v', ?_,hvv.mono (.add (hfr (by simp [za.next_push,za.next_set])))⟩;simp only [List.getElem?_toArray];have e2:cc.toList.length=l.n:=by simpa using hw2
           by_cases hk:k<len*i.size
           . rw [List.getElem?_append_left Oj,List.getElem?_take,if_pos hk,List.getElem?_drop] at hv';rw [List.append_assoc,List.getElem?_append_left Oj,List.getElem?_take,if_pos J];exact hv'
           . rw [List.getElem?_append_right Oj] at hv';have e4:((cc.toList.drop (l.o+off)).take (len*i.size)).length=len*i.size:=by simp; omega
             rw [e4] at hv';have hk2:k-len*i.size<news'.length:=(List.getElem?_eq_some_iff.1 hv').1;have e5:(cc.toList.take (l.o+(off+len*i.size))).length=l.o+(off+len*i.size):=by simp; omega
             rw [List.append_assoc,List.getElem?_append_right (by rw [e5]; omega),e5,List.getElem?_append_left J];rw [show l.o+off+k-(l.o+(off+len*i.size))=k-len*i.size from by omega];exact hv'),λ_=>⟨rfl,hbase⟩⟩ (by rw [hg]; simp)
         refine ⟨_,_,_,hrun, ?_,a1,a2⟩;exact .slice h.next 0 (len+n) i.size Oe ⟨l.c,l.o+off,l.n⟩ _ ccap (Emb.add_same _ _ _) hroom (λk hk=>by cases hk) (.inr ⟨rfl,h7⟩)
     . obtain ⟨v',w',G',h1,h2⟩:=grow J hle2;have hkill:=zgW hr hb ho .dead w rfl (λ_ _=>rfl) rfl rfl rfl trivial (by rw [hg]; simp);obtain ⟨a1,a2,a3⟩:=h2 (h.set b .dead) rfl hkill.1 (hfr (by simp [za.next_push,za.next_set]));exact ⟨v',w',G',h1,a1,a2,hkill.2.trans a3⟩
 . cases hl
include ok in
theorem zwA {argTypes:Array TypeId} {ty:TypeId} {d s v:zd} {d' s':Value} {h':za} (hr:H0 base G h w) (hd:zal G d d') (hs:zal G s s') (hl:acopy T argTypes d s h=Ob (v,h')) :
 VOk P base G h w (Builtin.copy_ argTypes ty #[d',s']) v h':=by
 unfold acopy at hl;split at hl
 case h_2=>cases hl
 rename_i dt hdt;split at hl
 case h_2=>cases hl
 rename_i elem hu;split at hl
 case h_2=>cases hl
 rename_i es hes;obtain ⟨j,hj,hjs⟩:=ok.size hes;simp only at hl;split at hl
 . cases hl
 rename_i hes0;split at hl
 case h_2=>cases hl
 rename_i news hrow;generalize hn:Nat.min (lenOf s) (lenOf d)=n at hl hrow;obtain ⟨hnl,news',hnr,hcase⟩:=zvS hr hs J hrow;have hnl':news'.length=n*j.size:=by rw [← hnr.1,hnl,hjs]
 have hlen:(Builtin.lenOf s').run P w=.ok (lenOf s) w:=by
  rcases hcase with ⟨rfl,_,_⟩ | ⟨a,len2,c,rfl,_,_,_⟩
  . cases hs with
    | undef=>simp [arow] at hrow
    | nsz=>simp [Builtin.lenOf,lenOf]
  . cases hs with
    | undef=>simp [arow] at hrow
    | slice=>simp [Builtin.lenOf,lenOf]
 have hf:(Builtin.firstCells j.size n s').run P w=.ok news'.toArray w:=by
  rcases hcase with ⟨rfl,_,rfl⟩ | ⟨a,len2,c,rfl,_,_,hcell⟩
  . exact run_firstCells_none w j.size n 0 0
  . exact run_firstCells_some w j.size n a len2 c news' hnl' (hcell w rfl)
 split at hl
 . cases hl;cases hd;refine ⟨_,w,G, ?_,.int .i64 _,hr,.refl _ _ _⟩;simp only [lenOf] at hn;have hn0:n=0:=by rw [← hn]; exact Nat.min_zero _
   subst hn0;simp [Builtin.copy_,hdt,zj (ok.und hu),hlen,zaj hj,goInt];rw [hf];simp
 . rename_i b off len es' cap;split at hl
   case h_2=>cases hl
   rename_i cells hg;split at hl
   case isFalse=>cases hl
   rename_i hc;obtain ⟨rfl,hle,hone⟩:=hc;cases hl;cases hd with
   | slice _ _ _ _ _ l a0 ccap hb hlen' hcap hoff=>
   have hn:(lenOf s).min len=n:=hn;rcases hoff with h0 | ⟨rfl,hfit⟩
   . have hn0:n=0:=by rw [← hn]; have:=Nat.min_le_right (lenOf s) len; simp only [Nat.min] at this ⊢; omega
     subst hn0;have e:news=[]:=List.eq_nil_of_length_eq_zero (by rw [hnl]; simp);have e':news'=[]:=List.eq_nil_of_length_eq_zero (by rw [hnl']; simp);subst e e';have ho:Owns h b:=by unfold Owns; rw [hg]; trivial
     have e3:splice cells off []=cells:=by unfold splice; simp
     have hblk:=hr.blk b l hb;rw [hg] at hblk;obtain ⟨a1,a2⟩:=zgW hr hb ho (.arr cells Oc) w rfl (λ_ _=>rfl) rfl rfl rfl hblk (by rw [hg]; simp);rw [e3];refine ⟨_,w,G, ?_,.int .i64 _,a1,a2⟩;simp [Builtin.copy_,hdt,zj (ok.und hu),hlen,zaj hj,goInt];rw [hn,hf];simp [storeCells]
   . obtain ⟨w',hst,hr',htr⟩:=zj8 (P:=P) (off:=off) hr hb hg hnr (by rw [hnl]; exact hle) hone;refine ⟨_,w',G, ?_,.int .i64 _,hr',htr⟩;simp [Builtin.copy_,hdt,zj (ok.und hu),hlen,zaj hj,goInt];rw [hn,hf];simp [hst]
 . cases hl
def Scal (d:TypeDesc) (k:zd):Prop:=(∃ j n,d=.int j/\k=.int j n)\/(∃ c,d=.bool/\k=.bool c)
theorem zrs {k k2:zd} {k' k2':Value} {d:TypeDesc} {b:Bool} (h1:zal G k k') (h2:zal G k2 k2') (hk:zhA k k2=Ob b) (hd:Scal d k):Instr.sameNow d k' k2'=Ob b:=by
 rcases hd with ⟨j,n,rfl,rfl⟩ | ⟨c,rfl,rfl⟩
 . cases h1;cases h2<;>simp [zhA] at hk;simp [Instr.sameNow,hk]
 . cases h1;cases h2<;>simp [zhA] at hk;simp [Instr.sameNow,hk]
theorem zrt {d:TypeDesc} {k k2:zd} (hd:Scal d k):akey k k2=zhA k k2:=by
 rcases hd with ⟨j,n,rfl,rfl⟩ | ⟨c,rfl,rfl⟩<;>simp [akey]
theorem zru {k:zd} {k':Value} {d:TypeDesc} (h1:zal G k k') (hd:Scal d k) :
    ∀ (es:List (zd×zd)) (ces:List MapEntry) (i:Nat) (r:Option (Nat×zd)),ces.length=es.length->(∀ (i:Nat) (k v:zd),es[i]?=Ob (k,v)->∃ e:MapEntry,ces[i]?=Ob e/\zal G k e.key/\zal G v e.val) ->
      afind k es i=Ob r->(r=Oe/\Instr.findNow d k' ces i=Ob Oe)\/(∃ m v v',r=Ob (m,v)/\i<=m/\m<i+es.length/\Instr.findNow d k' ces i=Ob (Ob (m,v'))/\zal G v v')
  | [],ces,i,r,hl,_,h=>by
    have:ces=[]:=List.eq_nil_of_length_eq_zero hl;subst this;simp [afind] at h;exact .inl ⟨h.symm,rfl⟩
  | (k2,v2)::es,ces,i,r,hl,he,h=>by
    cases ces with
    | nil=>simp at hl
    | cons c ces=>
      obtain ⟨e,h2,h3,h4⟩:=he 0 k2 v2 rfl;simp at h2; subst h2;simp only [afind] at h;rw [zrt hd] at h;cases hk:zhA k k2 with
      | none=>simp [hk] at h
      | some b=>
        have hs:=zrs h1 h3 hk hd;cases b with
        | true=>
          simp [hk] at h;exact .inr ⟨i,v2,c.val,h.symm,Nat.le_refl _,by simp,by simp [Instr.findNow,hs],h4⟩
        | false=>
          simp only [hk] at h;have ih:=zru h1 hd es ces (i+1) r (by simpa using hl) (λj a b hj=>by have:=he (j+1) a b (by simpa using hj); simpa using this) h;simp only [Instr.findNow,hs];rcases ih with ⟨a,b⟩ | ⟨m,v,v',a,b,c',d',e'⟩
          · exact .inl ⟨a,b⟩
          · exact .inr ⟨m,v,v',a,by omega,by simp; omega,d',e'⟩
theorem zor {t:TypeId} {k:zd} (h:zh8 T t k=Od):∃ d,T.und t=Ob d/\Scal d k:=by
 unfold zh8 at h;split at h
 . rename_i hu; simp at h; subst h; exact ⟨_,hu,.inl ⟨_,_,rfl,rfl⟩⟩
 . rename_i hu; exact ⟨_,hu,.inr ⟨_,rfl,rfl⟩⟩
 . cases h
theorem zla {k:zd} {k1 k2:Value} {d:TypeDesc} (h1:zal G k k1) (hd:Scal d k) (hs:Instr.sameNow d k1 k2=Ob Od):Instr.sameBits 10000 k2 k1=Od:=by
 rcases hd with ⟨j,n,rfl,rfl⟩ | ⟨c,rfl,rfl⟩
 . cases h1;cases k2<;>simp [Instr.sameNow] at hs;simp [Instr.sameBits,hs]
 . cases h1;cases k2<;>simp [Instr.sameNow] at hs;simp [Instr.sameBits,hs]
theorem zjg {d:TypeDesc} {k':Value}:∀ (ces:List MapEntry) (i m:Nat) (v:Value),Instr.findNow d k' ces i=Ob (Ob (m,v))->∃ e,ces[m-i]?=Ob e/\i<=m/\Instr.sameNow d k' e.key=Ob Od
 | [],i,m,v,h=>by simp [Instr.findNow] at h
 | e::es,i,m,v,h=>by
  simp only [Instr.findNow] at h;split at h
  . rename_i hs;simp at h;obtain ⟨rfl,_⟩:=h;exact ⟨e,by simp,Nat.le_refl _,hs⟩
  . obtain ⟨e',h1,h2,h3⟩:=zjg es (i+1) m v h;refine ⟨e', ?_,by omega,h3⟩;rw [show m-i=(m-(i+1))+1 from by omega];simpa using h1
  . cases h
inductive zy5 (T:Tab) (t:TypeId):zd->Prop where
 | s {d:TypeDesc} {k:zd} (hu:T.und t=Ob d) (hd:Scal d k):zy5 T t k
 | f {fs:Array Field} {cs:List zd} (hu:T.und t=Ob (.struct fs)) (hf:zfx T 0 fs.toList cs=Od) (hs:((T.types.get t).map (·.stood)).getD Od=Oc):zy5 T t (.agg cs)
theorem zka {t:TypeId} {k:zd} (h:zgs T t k=Od):zy5 T t k:=by
 unfold zgs at h;split at h
 . rename_i hu; simp at h; subst h; exact .s hu (.inl ⟨_,_,rfl,rfl⟩)
 . rename_i hu; exact .s hu (.inr ⟨_,rfl,rfl⟩)
 . rename_i hu;rw [Bool.and_eq_true,Bool.not_eq_true'] at h;exact .f hu h.1 h.2
 . cases h
theorem zos : ∀ {fs : List Field} {cs : List zd} {i : Nat}, zfx T i fs cs = true → cs.length = fs.length ∧ ∀ (j : Nat) (f : Field), fs[j]? = some f → f.name ≠ "_" ∧ f.offset = i + j ∧ ∃ v d, cs[j]? = some v ∧ T.und f.type = some d ∧ Scal d v
 | [],[],_,_=>⟨rfl,fun j f hf=>by simp at hf⟩
 | [],_::_,_,h=>by simp [zfx] at h
 | _::_,[],_,h=>by simp [zfx] at h
 | f::fs,v::vs,i,h=>by
  simp only [zfx,Bool.and_eq_true] at h;obtain ⟨⟨⟨h1,h2⟩,h3⟩,h4⟩:=h;obtain ⟨k1,k2⟩:=zos h4;refine ⟨by simp [k1],fun j g hg=>?_⟩;cases j with
  | zero=>
   simp at hg;subst hg;obtain ⟨d,hu,hd⟩:=zor h3;exact ⟨by simpa using h1,by have:=Nat.eq_of_beq_eq_true h2; omega,v,d,rfl,hu,hd⟩
  | succ j=>
   obtain ⟨a,b,u,d,c1,c2,c3⟩:=k2 j g (by simpa using hg);exact ⟨a,by omega,u,d,by simpa using c1,c2,c3⟩
theorem zpk {t:TypeId} {d:TypeDesc} {v:zd} (hu:T.und t=Ob d) (hd:Scal d v):zeb T t=Ob Oc:=by
 unfold zeb;rw [hu];rcases hd with ⟨_,_,rfl,_⟩ | ⟨_,rfl,_⟩<;>rfl
theorem znc {as bs : List zd} : ∀ (fs : List Field) (i : Nat) {b : Bool}, (∀ (j : Nat) (f : Field), fs[j]? = some f → f.name ≠ "_" ∧ f.offset = i + j ∧ ∃ v d, as[i + j]? = some v ∧ T.und f.type = some d ∧ Scal d v) →
    fs.length=(as.drop i).length->akeys (as.drop i) (bs.drop i)=Ob b ->
      zdr (fun f=>match apart T f.type as f.offset,apart T f.type bs f.offset with
        | some u,Ob v=>aeq T 1 f.type u v
        | _,_=>Oe) fs=Ob b
  | [],i,b,_,hl,h=>by
    have e:as.drop i=[]:=List.eq_nil_of_length_eq_zero hl.symm;rw [e] at h;cases hb:bs.drop i with
    | nil=>rw [hb] at h; simp [akeys] at h; subst h; rfl
    | cons y ys=>rw [hb] at h; simp [akeys] at h
  | f::fs,i,b,hf,hl,h=>by
    obtain ⟨h1,h2,v,d,h3,h4,h5⟩:=hf 0 f rfl;rw [Nat.add_zero] at h2 h3;have hlt:i<as.length:=(List.getElem?_eq_some_iff.1 h3).1;have ea:as.drop i=v::as.drop (i+1):=by
      rw [List.drop_eq_getElem_cons hlt];rw [List.getElem?_eq_getElem hlt] at h3;cases h3; rfl
    rw [ea] at h;cases hb:bs.drop i with
    | nil=>rw [hb] at h; simp [akeys] at h
    | cons y ys=>
      rw [hb] at h;have hltb:i<bs.length:=by
        have:=congrArg List.length hb;rw [List.length_drop,List.length_cons] at this;omega
      have eb:=List.drop_eq_getElem_cons hltb;rw [hb] at eb;have ey:bs[i]?=Ob y:=by
        rw [List.getElem?_eq_getElem hltb];have:=(List.cons.inj eb).1;rw [this]
      have eys:ys=bs.drop (i+1):=(List.cons.inj eb).2;subst eys;simp only [akeys] at h;have hag:=zpk h4 h5;simp only [zdr,if_pos h1,h2];have pa:apart T f.type as i=Ob v:=by unfold apart; rw [hag]; exact h3
      have pb:apart T f.type bs i=Ob y:=by unfold apart; rw [hag]; exact ey
      rw [pa,pb];simp only;cases hk:zhA v y with
      | none=>rw [hk] at h; cases h
      | some q=>
        rw [hk] at h;have he:aeq T 1 f.type v y=Ob q:=by
          rcases h5 with ⟨j,n,rfl,rfl⟩ | ⟨c,rfl,rfl⟩
          · cases y<;>simp [zhA] at hk;simp only [aeq,h4];obtain ⟨rfl,rfl⟩:=hk;simp
          · cases y<;>simp [zhA] at hk;simp only [aeq,h4];subst hk;rfl
        rw [he];cases q with
        | false=>exact h
        | true=>
          simp only;refine znc fs (i+1) (fun j g hg=>?_) ?_ h
          · have:=hf (j+1) g (by simpa using hg);rw [show i+1+j=i+(j+1) by omega];exact this
          · rw [ea] at hl;simpa using hl
theorem zt6 {t:TypeId} {fs:Array Field} {as bs:List zd} {b:Bool} (hu:T.und t=Ob (.struct fs)) (hf:zfx T 0 fs.toList as=Od) (hs:((T.types.get t).map (·.stood)).getD Od=Oc) (h:akeys as bs=Ob b):aeq T 2 t (.agg as) (.agg bs)=Ob b:=by
 obtain ⟨h1,h2⟩:=zos hf;have:=znc (T:=T) (as:=as) (bs:=bs) fs.toList 0 (b:=b) (λj f hj=>by
  obtain ⟨a,e,v,d,c1,c2,c3⟩:=h2 j f hj;exact ⟨a,e,v,d,by rw [Nat.zero_add]; exact c1,c2,c3⟩) (by rw [List.drop_zero]; exact h1.symm) (by rw [List.drop_zero,List.drop_zero]; exact h)
 simp only [aeq,hu,hs,Bool.false_eq_true,if_false];exact this
theorem zlt:∀ {as bs:List zd} {as' bs':List Value},zcL G as as'->zcL G bs bs'->akeys as bs=Ob Od->as'.length=bs'.length/\∀ n,(bs'.zip as').all (λp=>Instr.sameBits n p.1 p.2)=Od
 | [],[],as',bs',h1,h2,_=>by
  have e1:as'=[]:=List.eq_nil_of_length_eq_zero h1.1.symm;have e2:bs'=[]:=List.eq_nil_of_length_eq_zero h2.1.symm;subst e1 e2;exact ⟨rfl,λ_=>rfl⟩
 | [],_::_,_,_,_,_,h=>by simp [akeys] at h
 | _::_,[],_,_,_,_,h=>by simp [akeys] at h
 | a::as,b::bs,as',bs',h1,h2,h=>by
  cases as' with
  | nil=>have:=h1.1; simp at this
  | cons a' as'=>
   cases bs' with
   | nil=>have:=h2.1; simp at this
   | cons b' bs'=>
    have r1:zal G a a':=h1.2 0 a a' rfl rfl;have r2:zal G b b':=h2.2 0 b b' rfl rfl;have l1:zcL G as as':=⟨by have:=h1.1; simpa using this,λi v v' hv hv'=>h1.2 (i+1) v v' (by simpa using hv) (by simpa using hv')⟩;have l2:zcL G bs bs':=⟨by have:=h2.1; simpa using this,λi v v' hv hv'=>h2.2 (i+1) v v' (by simpa using hv) (by simpa using hv')⟩;simp only [akeys] at h;cases hk:zhA a b with
    | none=>rw [hk] at h; cases h
    | some q=>
     rw [hk] at h;cases q with
     | false=>cases h
     | true=>
      obtain ⟨i1,i2⟩:=zlt l1 l2 h;refine ⟨by simp [i1],λn=>?_⟩;simp only [List.zip_cons_cons,List.all_cons,i2 n,Bool.and_true];cases a<;>cases b<;>simp [zhA] at hk
      ·cases r1; cases r2; subst hk; cases n<;>simp [Instr.sameBits]
      ·cases r1; cases r2; obtain ⟨rfl,rfl⟩:=hk; cases n<;>simp [Instr.sameBits]
include ok in
theorem zlu {t:TypeId} {k:zd} {k':Value} (h1:zal G k k') (hd:zy5 T t k) {es:List (zd×zd)} {ces:List MapEntry} {r:Option (Nat×zd)} (hl:ces.length=es.length)
    (he:∀ (i:Nat) (k v:zd),es[i]?=Ob (k,v)->∃ e:MapEntry,ces[i]?=Ob e/\zal G k e.key/\zal G v e.val) (h:afind k es 0=Ob r) :
    (r=Oe/\(Instr.findKey t k' ces).run P w=.ok Oe w)\/(∃ m v v' e,r=Ob (m,v)/\m<es.length/\(Instr.findKey t k' ces).run P w=.ok (Ob (m,v')) w/\zal G v v'/\ces[m]?=Ob e/\Instr.sameBits 10000 e.key k'=Od):=by
  cases hd with
  | s hu hd=>
    have hu':=ok.und hu;rcases zru h1 hd es ces 0 r hl he h with ⟨rfl,h2⟩ | ⟨m,v,v',rfl,_,h3,h2,h4⟩
    · exact .inl ⟨rfl,by simp only [Instr.findKey,Sem.run_bind,zj hu',Result.andThen_ok,h2,Sem.run_pure]⟩
    · obtain ⟨e,g1,_,g2⟩:=zjg ces 0 m v' h2;exact .inr ⟨m,v,v',e,rfl,by omega,by simp only [Instr.findKey,Sem.run_bind,zj hu',Result.andThen_ok,h2,Sem.run_pure],h4,by simpa using g1,zla h1 hd g2⟩
  | f hu hf hs=>
    rename_i fs cs;have hu':=ok.und hu;obtain ⟨kc,rfl,hkc⟩:=h1.agg_inv
    -- one after the other
    have asks:∀ (es:List (zd×zd)) (ces:List MapEntry) (i:Nat) (r:Option (Nat×zd)),ces.length=es.length->(∀ (i:Nat) (k v:zd),es[i]?=Ob (k,v)->∃ e:MapEntry,ces[i]?=Ob e/\zal G k e.key/\zal G v e.val) ->
        afind (.agg cs) es i=Ob r->(r=Oe/\(Instr.findAsking t (.agg kc) ces i).run P w=.ok Oe w)\/(∃ m v v' e,r=Ob (m,v)/\i<=m/\m<i+es.length/\(Instr.findAsking t (.agg kc) ces i).run P w=.ok (Ob (m,v')) w/\zal G v v'/\ces[m-i]?=Ob e/\Instr.sameBits 10000 e.key (.agg kc)=Od):=by
      intro es;induction es with
      | nil=>
        intro ces i r hl _ h;have:ces=[]:=List.eq_nil_of_length_eq_zero hl;subst this;simp [afind] at h;exact .inl ⟨h.symm,rfl⟩
      | cons p es ih=>
        obtain ⟨k2,v2⟩:=p;intro ces i r hl he h;cases ces with
        | nil=>simp at hl
        | cons c ces=>
          obtain ⟨e,h2,h3,h4⟩:=he 0 k2 v2 rfl;simp at h2; subst h2;simp only [afind] at h;cases hk:akey (.agg cs) k2 with
          | none=>simp [hk] at h
          | some b=>
            obtain ⟨bs,rfl,hk2⟩:∃ bs,k2=.agg bs/\akeys cs bs=Ob b:=by
              cases k2<;>simp [akey,zhA] at hk;exact ⟨_,rfl,hk⟩
            have heq:=zrq ok 2 t (.agg cs) (.agg bs) (.agg kc) c.key b 10000 J h1 h3 (zt6 hu hf hs hk2) (w:=w);have heq:(Op.equal t (.agg kc) c.key).run P w=.ok b w:=heq;simp only [Instr.findAsking,Sem.run_bind,heq,Result.andThen_ok];cases b with
            | true=>
              simp [hk] at h;obtain ⟨bc,hbc,hbl⟩:=h3.agg_inv;obtain ⟨s1,s2⟩:=zlt hkc hbl hk2;refine .inr ⟨i,v2,c.val,c,h.symm,Nat.le_refl _,by simp,rfl,h4,by simp, ?_⟩;rw [hbc];show Instr.sameBits (9999+1) (.agg bc) (.agg kc)=Od;simp only [Instr.sameBits,Bool.and_eq_true,beq_iff_eq];exact ⟨by simpa using s1.symm,s2 9999⟩
            | false=>
              simp only [hk] at h;rcases ih ces (i+1) r (by simpa using hl) (λj a b hj=>by have:=he (j+1) a b (by simpa using hj); simpa using this) h with ⟨a,b⟩ | ⟨m,v,v',e,a,b,c',d',e',f',g'⟩
              · exact .inl ⟨a,b⟩
              · exact .inr ⟨m,v,v',e,a,by omega,by simp; omega,d',e',by rw [show m-i=(m-(i+1))+1 by omega]; simpa using f',g'⟩
    have hnow:∀ r',(r'=Oe\/r'≠Oe)->(Instr.findAsking t (.agg kc) ces 0).run P w=.ok r' w->(Instr.findKey t (.agg kc) ces).run P w=.ok r' w:=by
      intro r' _ hr';simp only [Instr.findKey,Sem.run_bind,zj hu',Result.andThen_ok];cases ces with
      | nil=>exact hr'
      | cons c ces=>
        have:Instr.findNow (.struct fs) (.agg kc) (c::ces) 0=Oe:=by simp [Instr.findNow,Instr.sameNow]
        rw [this];exact hr'
    rcases asks es ces 0 r hl he h with ⟨rfl,h2⟩ | ⟨m,v,v',e,rfl,_,h3,h2,h4,h5,h6⟩
    · exact .inl ⟨rfl,hnow _ (.inl rfl) h2⟩
    · exact .inr ⟨m,v,v',e,rfl,by omega,hnow _ (.inr Ol) h2,h4,by simpa using h5,h6⟩
theorem zia (n:Nat) {t:TypeId} {d:TypeDesc} {k:zd} {k':Value} (hu:P.underlying t=Ob d) (h1:zal G k k') (hd:Scal d k) (b:Bool) :
 (Instr.checkKey b (n+1) t k').run P w=.ok () w:=by
 rcases hd with ⟨j,n,rfl,rfl⟩ | ⟨c,rfl,rfl⟩
 . cases h1; simp only [Instr.checkKey,Sem.run_bind,zj hu,Result.andThen_ok,Sem.run_pure]
 . cases h1; simp only [Instr.checkKey,Sem.run_bind,zj hu,Result.andThen_ok,Sem.run_pure]
theorem zlv {A:Type} {f:A->PUnit->Sem (ForInStep PUnit)}:∀ (l:List A),(∀ x∈l,(f x ⟨⟩).run P w=.ok (.yield ⟨⟩) w)->(forIn l PUnit.unit f:Sem PUnit).run P w=.ok ⟨⟩ w
 | [],_=>by simp
 | x::l,h=>by
  rw [List.forIn_cons];simp only [Sem.run_bind,h x (List.mem_cons_self ..),Result.andThen_ok];exact zlv l λy hy=>h y (List.mem_cons_of_mem _ hy)
include ok in
theorem zfU {t:TypeId} {k:zd} {k':Value} (h1:zal G k k') (hd:zy5 T t k) (b:Bool) :
    (Instr.checkKey b 10000 t k').run P w=.ok () w:=by
  cases hd with
  | s hu hd=>exact zia 9999 (ok.und hu) h1 hd b
  | f hu hf hs'=>
    rename_i fs cs;obtain ⟨kc,rfl,hkc⟩:=h1.agg_inv;obtain ⟨g1,g2⟩:=zos hf;show (Instr.checkKey b (9998+1+1) t (.agg kc)).run P w=_;rw [Instr.checkKey];simp only [Sem.run_bind,zj (ok.und hu),Result.andThen_ok];rw [← Array.forIn_toList];have key:∀ {f:Field->PUnit->Sem (ForInStep PUnit)},(∀ x∈fs.toList,(f x ⟨⟩).run P w=.ok (.yield ⟨⟩) w)->((forIn fs.toList PUnit.unit f:Sem PUnit).run P w).andThen (λa w'=>(pure ():Sem Unit).run P w')=.ok () w:=λhh=>by
      rw [zlv fs.toList hh];rfl
    refine key λf hfm=>?_;obtain ⟨j,hj,hfe⟩:=List.getElem_of_mem hfm;obtain ⟨a,e,v,d,c1,c2,c3⟩:=g2 j f (by rw [List.getElem?_eq_getElem hj,hfe]);have hap:apart T f.type cs f.offset=Ob v:=by
      unfold apart;rw [zpk c2 c3,e,Nat.zero_add];exact c1
    obtain ⟨v',hv1,hv2⟩:=zj9 ok (w:=w) hkc hap;rw [if_pos a];simp only [Sem.run_bind,hv1,Result.andThen_ok,zia 9998 (ok.und c2) hv2 c3 b];rfl
theorem zrv (hr:H0 base G h w) {r:Nat} {l:Loc} {es:List (zd×zd)} (hb:G r=Ob l) (hg:h.get r=Ob (.mp es)) :
 base<=l.c/\∃ (ces:Array MapEntry) (clk:Nat),w.heap[l.c]?=Ob (.map ces clk)/\ces.size=es.length/\∀ (i:Nat) (k v:zd),es[i]?=Ob (k,v)->∃ e:MapEntry,ces[i]?=Ob e/\zal G k e.key/\zal G v e.val:=by
 have hblk:=hr.blk r l hb;rw [hg] at hblk;exact hblk
theorem zgw (w:World) (r:Nat) (ces:Array MapEntry) (clk:Nat) (hg:w.heap[r]?=Ob (.map ces clk)):(getObj r).run P w=.ok (.map ces clk) w:=by
 simp [getObj,Sem.run,hg]
include ok in
theorem zrw {t:TypeId} {x ix v:zd} {x' ix':Value} {b:Bool} (hr:H0 base G h w) (hx:zal G x x') (hi:zal G ix ix') (hl:alookup T t x ix b h=Ob v) :
    ∃ v',(Instr.lookup t x' ix' b).run P w=.ok v' w/\zal G v v':=by
  unfold alookup at hl;split at hl
  case h_2=>cases hl
  rename_i key elem hu;split at hl
  case isFalse=>cases hl
  rename_i hk;have hkd:=zka hk;have fin:∀ (es:List (zd×zd)) (ces:Array MapEntry),ces.size=es.length->(∀ (i:Nat) (k v:zd),es[i]?=Ob (k,v)->∃ e:MapEntry,ces[i]?=Ob e/\zal G k e.key/\zal G v e.val) ->
      (match afind ix es 0 with
        | some (Ob (_,v))=>Ob (if b then .tuple [v,.bool Od] else v)
        | some Oe=>match zeS T elem with
          | some z=>Ob (if b then .tuple [z,.bool Oc] else z)
          | none=>Oe
        | none=>Oe)=Ob v ->
      ∃ v',(do
        Instr.checkKey ces.isEmpty 10000 key ix'
        let (v,ok) ← match ← Instr.findKey key ix' ces.toList with
          | some (_,v)=>pure (v,Od)
          | none=>pure (← zeroValue elem,Oc)
        pure (if b then .tuple #[v,.bool ok] else v):Sem Value).run P w=.ok v' w/\zal G v v':=by
    intro es ces hsz hes hf;cases ha:afind ix es 0 with
    | none=>simp [ha] at hf
    | some r=>
      rcases zlu ok (w:=w) hi hkd (ces:=ces.toList) (by simpa using hsz) (λi k v hh=>by have:=hes i k v hh; simpa using this) ha with ⟨rfl,h2⟩ | ⟨m,u,u',_,rfl,_,h2,h3,_,_⟩
      · simp only [ha] at hf;cases hz:zeS T elem with
        | none=>simp [hz] at hf
        | some z=>
          obtain ⟨j,zv,hj,hjz,hzv⟩:=ok.zero hz;have hzr:=zeU G zv z hzv;simp only [hz,Option.some.injEq] at hf;simp only [Sem.run_bind,zfU ok hi hkd,Result.andThen_ok,h2,Sem.run_pure,zdP hj hjz];refine ⟨_,rfl, ?_⟩;subst hf;cases b
          · exact hzr
          · exact .tuple' (.cons hzr (.cons (.bool Oc) (.nil _)))
      · simp only [ha,Option.some.injEq] at hf;simp only [Sem.run_bind,zfU ok hi hkd,Result.andThen_ok,h2,Sem.run_pure];refine ⟨_,rfl, ?_⟩;subst hf;cases b
        · exact h3
        · exact .tuple' (.cons h3 (.cons (.bool Od) (.nil _)))
  split at hl
  case h_2=>cases hl
  rename_i es hes;split at hes
  · cases hes;cases hx;obtain ⟨v',h1,h2⟩:=fin [] #[] rfl Ol hl;refine ⟨v', ?_,h2⟩;simp only [Instr.lookup,Sem.run_bind,zj (ok.und hu),Result.andThen_ok,Sem.run_pure] at h1 ⊢;exact h1
  · split at hes
    case h_2=>cases hes
    rename_i r es' hg;cases hes;cases hx with
    | map _ l hb=>
    obtain ⟨_,ces,clk,h1,h2,h3⟩:=zrv hr hb hg;obtain ⟨v',h4,h5⟩:=fin es ces h2 h3 hl;refine ⟨v', ?_,h5⟩;simp only [Instr.lookup,Sem.run_bind,zj (ok.und hu),Result.andThen_ok,zgw w l.c ces clk h1,Sem.run_pure] at h4 ⊢;exact h4
  · cases hes
include ok in
theorem zjh {t:TypeId} {m k v:zd} {m' k' v':Value} {h':za} (hr:H0 base G h w) (hm:zal G m m') (hk:zal G k k') (hv:zal G v v') (hl:zbB T t m k v h=Ob h') :
    UOk P base G h w (Instr.mapUpdate t m' k' v') h':=by
  unfold zbB at hl;split at hl
  case h_2=>cases hl
  rename_i key elem r hu;split at hl
  case isFalse=>cases hl
  rename_i hpk;have hkd:=zka hpk;split at hl
  case h_2=>cases hl
  rename_i es hg;cases hm with
  | map _ l hb=>
  obtain ⟨hbase,ces,clk,h1,h2,h3⟩:=zrv hr hb hg;have ho:Owns h r:=by unfold Owns; rw [hg]; trivial
  have hlc:l.c<w.heap.size:=hr.clt r l hb;cases ha:afind k es 0 with
  | none=>simp [ha] at hl
  | some q=>
    rcases zlu ok (w:=w) hk hkd (ces:=ces.toList) (by simpa using h2) (λi k v hh=>by have:=h3 i k v hh; simpa using this) ha with ⟨rfl,h4⟩ | ⟨i,u,u',e,rfl,hi,h4,_,he,hbits⟩
    · simp [ha] at hl;subst hl;obtain ⟨a1,a2⟩:=zgW hr hb ho (.mp (es++[(k,v)])) { w with heap:=w.heap.setIfInBounds l.c (.map (ces.push { key:=k',val:=v',born:=clk }) (clk+1)) } Ol
        (λj hj=>by simp [Array.getElem?_setIfInBounds,Ne.symm hj]) rfl rfl rfl
        ⟨hbase,ces.push { key:=k',val:=v',born:=clk },clk+1,by simp [Array.getElem?_setIfInBounds,hlc],by simp [h2],λi a b hh=>by
          by_cases hi:i<es.length
          · rw [List.getElem?_append_left hi] at hh;obtain ⟨e,he,h5,h6⟩:=h3 i a b hh;refine ⟨e, ?_,h5,h6⟩;rw [Array.getElem?_push,if_neg J]; exact he
          · rw [List.getElem?_append_right J] at hh;have hi2:i-es.length=0:=by
              have:=(List.getElem?_eq_some_iff.1 hh).1;simp at this; omega
            rw [hi2] at hh;simp at hh;obtain ⟨rfl,rfl⟩:=hh;refine ⟨{ key:=k',val:=v',born:=clk }, ?_,hk,hv⟩;rw [Array.getElem?_push,if_pos J]⟩ (by rw [hg]; simp)
      refine ⟨_,G, ?_,a1,a2⟩;simp only [Instr.mapUpdate,Sem.run_bind,zj (ok.und hu),Result.andThen_ok,zgw w l.c ces clk h1,zfU ok hk hkd,h4,Sem.run_pure,setObj,Sem.run,h1]
    · simp [ha] at hl;subst hl;simp only [Array.getElem?_toList] at he;obtain ⟨a1,a2⟩:=zgW hr hb ho (.mp (es.set i (k,v))) { w with heap:=w.heap.setIfInBounds l.c (.map (ces.modify i λe=>{ e with key:=k',val:=v' }) clk) } Ol
        (λj hj=>by simp [Array.getElem?_setIfInBounds,Ne.symm hj]) rfl rfl rfl
        ⟨hbase,ces.modify i λe=>{ e with key:=k',val:=v' },clk,by simp [Array.getElem?_setIfInBounds,hlc],by simp [h2],λj a b hh=>by
          rw [List.getElem?_set] at hh;rw [Array.getElem?_modify];by_cases hij:i=j
          · subst hij;rw [if_pos rfl,if_pos hi] at hh;simp at hh;obtain ⟨rfl,rfl⟩:=hh;exact ⟨{ e with key:=k',val:=v' },by rw [if_pos rfl,he]; rfl,hk,hv⟩
          · rw [if_neg hij] at hh ⊢;exact h3 j a b hh⟩ (by rw [hg]; simp)
      refine ⟨_,G, ?_,a1,a2⟩;simp only [Instr.mapUpdate,Sem.run_bind,zj (ok.und hu),Result.andThen_ok,zgw w l.c ces clk h1,zfU ok hk hkd,h4,Sem.run_pure,he,Option.map_some,Option.getD_some,Instr.keyThatStays,hbits,if_true,setObj,Sem.run,h1]
end
section
variable {T:Tab} {P:Program} (ok:T.Ok P) {base:Nat} {G:Emb} {h:za} {w:World}
include ok in
theorem zy6 {argTypes:Array TypeId} {ty t:TypeId} {x v:zd} {x':Value} (hr:H0 base G h w) (ht:argTypes[0]?=Ob t) (hx:zal G x x') (hl:alen T t x h=Ob v) :
 ∃ v',(Builtin.len_ argTypes ty #[x']).run P w=.ok v' w/\zal G v v':=by
 unfold alen at hl;split at hl
 . rename_i hu;cases hl; cases hx;exact ⟨_,by simp [Builtin.len_,ht,zj (ok.und hu),goInt],.int _ _⟩
 . rename_i hu;cases hl; cases hx;exact ⟨_,by simp [Builtin.len_,ht,zj (ok.und hu),goInt],.int _ _⟩
 . rename_i hu;cases hl;exact ⟨_,by simp [Builtin.len_,ht,zj (ok.und hu),goInt],.int _ _⟩
 . rename_i hu;cases hl; cases hx;exact ⟨_,by simp [Builtin.len_,ht,zj (ok.und hu),goInt],.int _ _⟩
 . rename_i r hu;split at hl
   case h_2=>cases hl
   rename_i es hg;cases hl;cases hx with
   | map _ l hb=>
   obtain ⟨_,ces,clk,h1,h2,_⟩:=zrv hr hb hg;exact ⟨_,by simp [Builtin.len_,ht,zj (ok.und hu),zgw w l.c ces clk h1,goInt,h2],.int _ _⟩
 . rename_i hu;cases hl; cases hx;exact ⟨_,by simp [Builtin.len_,ht,zj (ok.und hu),goInt],.int _ _⟩
 . cases hl
theorem zy7 {argTypes:Array TypeId} {ty:TypeId} {xs:List zd} {xs':Array Value} {v:zd} (hx:zcL G xs xs'.toList) (hl:amax xs=Ob v) :
    ∃ v',(Builtin.max_ argTypes ty xs').run P w=.ok v' w/\zal G v v':=by
  unfold Builtin.max_;generalize xs'.toList=ys at hx;unfold amax at hl;split at hl
  · cases hl
  · rename_i k x rest;obtain ⟨y,ys',rfl,h1,h2⟩:=hx.cons_inv;simp only;clear hx;generalize hacc:zd.int k x=acc at hl h1;have hint:∃ k x,acc=.int k x:=⟨k,x,hacc.symm⟩;clear hacc k x;induction rest generalizing acc y ys' with
    | nil=>
      have:=h2.nil_inv;subst this;simp at hl;subst hl;exact ⟨y,rfl,h1⟩
    | cons r rest ih=>
      obtain ⟨z,ys2,rfl,h3,h4⟩:=h2.cons_inv;obtain ⟨k,x,rfl⟩:=hint;cases h1;rw [List.foldlM_cons] at hl;cases r<;>simp only [Option.bind_eq_bind,Option.bind_none,Zs] at hl<;>(try (cases hl; done));cases h3;rw [List.foldlM_cons];simp only [Builtin.max2,Sem.run_bind,Sem.run_pure,Result.andThen_ok];exact ih _ _ h4 _ hl (.int _ _) ⟨_,_,rfl⟩
  · cases hl
theorem zy8 {argTypes:Array TypeId} {ty:TypeId} {xs:List zd} {xs':Array Value} {v:zd} (hx:zcL G xs xs'.toList) (hl:amin xs=Ob v) :
    ∃ v',(Builtin.min_ argTypes ty xs').run P w=.ok v' w/\zal G v v':=by
  unfold Builtin.min_;generalize xs'.toList=ys at hx;unfold amin at hl;split at hl
  · cases hl
  · rename_i k x rest;obtain ⟨y,ys',rfl,h1,h2⟩:=hx.cons_inv;simp only;clear hx;generalize hacc:zd.int k x=acc at hl h1;have hint:∃ k x,acc=.int k x:=⟨k,x,hacc.symm⟩;clear hacc k x;induction rest generalizing acc y ys' with
    | nil=>
      have:=h2.nil_inv;subst this;simp at hl;subst hl;exact ⟨y,rfl,h1⟩
    | cons r rest ih=>
      obtain ⟨z,ys2,rfl,h3,h4⟩:=h2.cons_inv;obtain ⟨k,x,rfl⟩:=hint;cases h1;rw [List.foldlM_cons] at hl;cases r<;>simp only [Option.bind_eq_bind,Option.bind_none,Zs] at hl<;>(try (cases hl; done));cases h3;rw [List.foldlM_cons];simp only [Builtin.min2,Sem.run_bind,Sem.run_pure,Result.andThen_ok];exact ih _ _ h4 _ hl (.int _ _) ⟨_,_,rfl⟩
  · cases hl
def zjx (P:Program) (base:Nat) (G:Emb) (h:za) (w:World) (s:Sem Next) (v:zd) (h':za):Prop:=
 ∃ nx v' w' G',s.run P w=.ok nx w'/\(nx=.value v'\/(nx=.skip/\v'=undef))/\zal G' v v'/\H0 base G' h' w'/\Trans G h w G' h' w'
theorem zjx.of_V {s:Sem Value} {v:zd} {h':za} (hv:VOk P base G h w s v h'):zjx P base G h w (do pure (.value (← s)):Sem Next) v h':=by
 obtain ⟨v',w',G',h1,h2,h3,h4⟩:=hv;exact ⟨.value v',v',w',G',by simp [h1],.inl rfl,h2,h3,h4⟩
theorem zjx.of_pure {s:Sem Value} {v:zd} (hr:H0 base G h w) (hv:∃ v',s.run P w=.ok v' w/\zal G v v'):zjx P base G h w (do pure (.value (← s)):Sem Next) v h:=by
 obtain ⟨v',h1,h2⟩:=hv;exact .of_V (.pure hr h1 h2)
theorem zjx.of_U {s:Sem Unit} {h':za} (hv:UOk P base G h w s h'):zjx P base G h w (do s; pure .skip:Sem Next) (.tuple []) h':=by
 obtain ⟨w',G',h1,h3,h4⟩:=hv;exact ⟨.skip,undef,w',G',by simp [h1],.inr ⟨rfl,rfl⟩,.tuple' (.nil _),h3,h4⟩
theorem zD {hh:za} {x:Option zd} {v:zd} {h':za} (e:z6 hh x=Ob (.val v h')):x=Ob v/\h'=hh:=by
 cases x with
 | none=>cases e
 | some y=>cases e; exact ⟨rfl,rfl⟩
theorem zbC {x:Option (zd×za)} {v:zd} {h':za} (e:zf0 x=Ob (.val v h')):x=Ob (v,h'):=by
 cases x with
 | none=>cases e
 | some y=>cases e; rfl
theorem zcD {x:Option za} {v:zd} {h':za} (e:zgt x=Ob (.val v h')):x=Ob h'/\v=.tuple []:=by
 cases x with
 | none=>cases e
 | some y=>cases e; exact ⟨rfl,rfl⟩
theorem zeF {hh:za} {x:Option zd} {f:zd} {as:List zd}:z6 hh x≠Ob (.call f as):=by cases x<;>simp [z6]
theorem zgZ {x:Option (zd×za)} {f:zd} {as:List zd}:zf0 x≠Ob (.call f as):=by cases x<;>simp [zf0]
theorem znd {x:Option za} {f:zd} {as:List zd}:zgt x≠Ob (.call f as):=by cases x<;>simp [zgt]
theorem zmc {ev:Operand->zd} {cev:Operand->Value} (hev:∀ x,zal G (ev x) (cev x)) (o:Option Operand):zy4 G (o.map ev) (o.map cev):=by
 cases o with
 | none=>exact .inl ⟨rfl,rfl⟩
 | some x=>exact .inr ⟨_,_,rfl,rfl,hev x⟩
theorem zjE {ev:Operand->zd} {cev:Operand->Value} (hev:∀ x,zal G (ev x) (cev x)) (xs:Array Operand):zcL G (xs.toList.map ev) (xs.map cev).toList:=by
 refine ⟨by simp,λi v v' hv hv'=>?_⟩;simp only [List.getElem?_map,Array.toList_map] at hv hv';cases hq:xs.toList[i]? with
 | none=>rw [hq] at hv; cases hv
 | some q=>rw [hq] at hv hv'; cases hv; cases hv'; exact hev q
theorem zlw {v:zd} {v':Value} (hr:H0 base G h w) (hn:G h.next=Oe) (hv:zal G v v') (hu:v≠.undef) (el:TypeId) :
 VOk P base G h w (do pure (.pointer (Ob (← newVar el v'))):Sem Value) (.ptr h.next 0) (h.push (.arr v.cells Oc)):=by
 have hc:=hv.cells hu;obtain ⟨a,b⟩:=zf8 (cc:=v'.cells) hr hn (cells:=v.cells) (by rw [zpj (by rw [hc.1]; exact Nat.le_refl _)]; exact hc) (by rw [hc.1]; simp) el (w.alloc (.cells v'.cells el)) rfl rfl rfl rfl;exact ⟨.pointer (Ob ⟨w.heap.size,0,Oe⟩),_,_,by simp [newVar,newRow],.ptr h.next 0 ⟨w.heap.size,0,_⟩ (Emb.add_same _ _ _),a,b⟩
include ok in
theorem zy9 {argTypes:Array TypeId} {ty t:TypeId} {x v:zd} {x':Value} (ht:argTypes[0]?=Ob t) (hx:zal G x x') (hl:acap T t x=Ob v) :
 ∃ v',(Builtin.cap_ argTypes ty #[x']).run P w=.ok v' w/\zal G v v':=by
 unfold acap at hl;split at hl
 . rename_i e hu;cases hl;cases hx;refine ⟨_, ?_,.int .i64 _⟩;simp [Builtin.cap_,ht,zj (ok.und hu),goInt]
 . rename_i e b off len es c hu;cases hl;cases hx with
   | slice _ _ _ _ _ l a ccap hb hlen hcap hoff=>
   have:=hcap c rfl;subst this;refine ⟨_, ?_,.int .i64 _⟩;simp [Builtin.cap_,ht,zj (ok.und hu),goInt]
 . cases hl
include ok in
theorem zqr {b:Builtin} {argTypes:Array TypeId} {ty:TypeId} {consts:Array Bool} {xs:List zd} {xs':Array Value} {v:zd} {h':za} (hr:H0 base G h w) (hn:h'.next≠h.next->G h.next=Oe) (hx:zcL G xs xs'.toList)
 (hl:abuiltin T b argTypes xs h=Ob (.val v h')):zjx P base G h w (builtin b argTypes ty consts xs') v h':=by
 unfold abuiltin at hl;split at hl
 . rename_i x;split at hl
   case h_2=>cases hl
   rename_i t ht;obtain ⟨hl2,rfl⟩:=zD hl;obtain ⟨y,ys,e,h1,h2⟩:=hx.cons_inv;have e2:xs'=#[y]:=by apply Array.ext'; rw [e,h2.nil_inv]
   subst e2;exact zjx.of_pure hr (zy6 ok hr ht h1 hl2)
 . rename_i x;split at hl
   case h_2=>cases hl
   rename_i t ht;obtain ⟨hl2,rfl⟩:=zD hl;obtain ⟨y,ys,e,h1,h2⟩:=hx.cons_inv;have e2:xs'=#[y]:=by apply Array.ext'; rw [e,h2.nil_inv]
   subst e2;exact zjx.of_pure hr (zy9 ok ht h1 hl2)
 . rename_i s x;have hl:=zbC hl;obtain ⟨y,ys,e,h1,h2⟩:=hx.cons_inv;obtain ⟨z,zs,e',h3,h4⟩:=h2.cons_inv;have e2:xs'=#[y,z]:=by apply Array.ext'; rw [e,e',h4.nil_inv]
   subst e2;exact .of_V (zrr ok hr hn h1 h3 hl)
 . rename_i s x;have hl:=zbC hl;obtain ⟨y,ys,e,h1,h2⟩:=hx.cons_inv;obtain ⟨z,zs,e',h3,h4⟩:=h2.cons_inv;have e2:xs'=#[y,z]:=by apply Array.ext'; rw [e,e',h4.nil_inv]
   subst e2;exact .of_V (zwA ok hr h1 h3 hl)
 . obtain ⟨hl2,rfl⟩:=zD hl;exact zjx.of_pure hr (zy7 hx hl2)
 . obtain ⟨hl2,rfl⟩:=zD hl;exact zjx.of_pure hr (zy8 hx hl2)
 . cases hl
theorem zmd {b:Builtin} {argTypes:Array TypeId} {xs:List zd} {f:zd} {as:List zd}:abuiltin T b argTypes xs h≠Ob (.call f as):=by
 unfold abuiltin;split
 . split
   . exact zeF
   . simp
 . split
   . exact zeF
   . simp
 . exact zgZ
 . exact zgZ
 . exact zeF
 . exact zeF
 . simp
include ok in
theorem zvT {o:Oper} {ev:Operand->zd} {cev:Operand->Value} {v:zd} {h':za} (hr:H0 base G h w) (hn:h'.next≠h.next->G h.next=Oe) (hev:∀ x,zal G (ev x) (cev x)) (hl:aop T ev h o.op=Ob (.val v h')) :
    zjx P base G h w (execOp cev o) v h':=by
  unfold execOp;cases hop:o.op<;>rw [hop] at hl<;>simp only [aop] at hl<;>(try (cases hl; done))
  case move x=>cases hl; exact ⟨_,_,w,G,rfl,.inl rfl,hev x,hr,.refl _ _ _⟩
  case assign x=>cases hl; exact ⟨_,_,w,G,rfl,.inl rfl,hev x,hr,.refl _ _ _⟩
  case pick c a b=>
    unfold zh9 at hl;split at hl
    · rename_i t hc;cases hl;have:=hev c;rw [hc] at this;generalize hcc:cev c=cc at this;cases this;refine ⟨.value (if t then cev a else cev b),_,w,G,by simp [asBool,hcc],.inl rfl, ?_,hr,.refl _ _ _⟩;cases t
      · exact hev b
      · exact hev a
    · cases hl
  case alloc elem=>
    unfold zf1 at hl;split at hl
    case h_2=>cases hl
    rename_i z hz;cases hl;obtain ⟨j,zv,hj,hjz,hzv⟩:=ok.zero hz;have:=zlw (P:=P) hr (hn (by simp [za.next_push])) (zeU G zv z hzv) (zhh hzv) elem;obtain ⟨v',w',G',h1,h2,h3,h4⟩:=this;refine ⟨.value v',v',w',G', ?_,.inl rfl,h2,h3,h4⟩;simp only [Sem.run_bind] at h1;simp only [Instr.alloc,Sem.run_bind,zdP hj hjz,Result.andThen_ok,Sem.run_pure];simp only [Sem.run_pure] at h1;rw [h1]; rfl
  case box elem x=>
    unfold zj1 at hl;split at hl
    · cases hl
    · rename_i hne;cases hl;have:=zlw (P:=P) hr (hn (by simp [za.next_push])) (hev x) (λe=>hne e) elem;exact .of_V this
  case build t parts=>
    obtain ⟨hl2,rfl⟩:=zD hl;exact zjx.of_pure hr (zt3 ok hev parts hl2)
  case buildSlice t len parts=>
    exact .of_V (zmb ok hr hn hev parts (zbC hl))
  case load t a=>
    obtain ⟨hl2,rfl⟩:=zD hl;exact .of_V (zwz ok hr (hev a) hl2)
  case store t a x=>
    obtain ⟨hl2,rfl⟩:=zcD hl;exact .of_U (zt0 ok hr (hev a) (hev x) hl2)
  case nilCheck x=>
    unfold zdz at hl;have hx:=hev x;split at hl
    · rename_i b off he;rw [he] at hx;cases hl;generalize hcc:cev x=cc at hx;have hx2:=hx;cases hx with
      | ptr _ _ l hb=>exact ⟨_,_,w,G,by simp only [hcc]; rfl,.inl rfl,hx2,hr,.refl _ _ _⟩
    · rename_i f a b he;rw [he] at hx;cases hl;generalize hcc:cev x=cc at hx;have hx2:=hx;cases hx with
      | func fn fn' f' c f2 c2 hfn hf hc hfs hcs=>
        rcases hfn with ⟨l,l',e,_⟩ | ⟨g,e,rfl⟩
        · cases e
        · exact ⟨_,_,w,G,by simp only [hcc]; rfl,.inl rfl,hx2,hr,.refl _ _ _⟩
    · rename_i f a b he;rw [he] at hx;cases hl;generalize hcc:cev x=cc at hx;have hx2:=hx;cases hx with
      | func fn fn' f' c f2 c2 hfn hf hc hfs hcs=>
        rcases hfn with ⟨l,l',e,rfl,_⟩ | ⟨g,e,rfl⟩
        · exact ⟨_,_,w,G,by simp only [hcc]; rfl,.inl rfl,hx2,hr,.refl _ _ _⟩
        · cases e
    · cases hl
  case binOp op t x y yt=>
    obtain ⟨hl2,rfl⟩:=zD hl;exact zjx.of_pure hr (zy3 ok x y (hev x) (hev y) hl2)
  case unOp op t x=>
    obtain ⟨hl2,rfl⟩:=zD hl;exact zjx.of_pure hr (zAW (hev x) hl2)
  case convert src dst x=>
    obtain ⟨hl2,rfl⟩:=zD hl;exact zjx.of_pure hr (zqq ok (hev x) hl2)
  case makeInterface t x=>
    unfold zcP at hl;split at hl
    · cases hl
    · rename_i d hne hu;cases hl;refine zjx.of_pure hr ⟨.iface t (cev x), ?_,.iface _ _ _ (hev x)⟩;simp only [Instr.makeInterface,Sem.run_bind,zj (ok.und hu),Result.andThen_ok];cases d<;>first | rfl | (exact absurd rfl (hne _))
    · cases hl
  case makeFunc fn first captured=>
    unfold zdA at hl;split at hl
    · cases hl;rename_i f;refine zjx.of_pure hr ⟨_,rfl, ?_⟩;have h1:=zjE hev first
      have h2:=zjE hev captured;exact .func _ _ _ _ _ _ (.inr ⟨f,rfl,rfl⟩) (by rw [h1.1]; simp) (by rw [h2.1]; simp) (λi v v' a b=>h1.2 i v v' a (by simpa using b)) (λi v v' a b=>h2.2 i v v' a (by simpa using b))
    · cases hl
  case makeMap t r=>
    unfold zeT at hl;split at hl
    case h_2=>cases hl
    rename_i k e n hu hn;cases hl;obtain ⟨a,b⟩:=zl8 hr (hn (by simp [za.next_push])) (.mp []) (.map #[] 0) (w.alloc (.map #[] 0)) 0 rfl rfl rfl rfl
      ⟨hr.base,#[],0,heap_alloc_new w _,rfl,by simp⟩
    refine .of_V ⟨.map (Ob w.heap.size),_,_, ?_,.map h.next ⟨w.heap.size,0,0⟩ (Emb.add_same _ _ _),a,b⟩;cases r with
    | none=>simp [Instr.makeMap]
    | some x=>
      simp only at hn;split at hn
      case h_2=>cases hn
      rename_i kk nn he;have hx:=hev x;rw [he] at hx;generalize hcc:cev x=cc at hx;cases hx;simp [Instr.makeMap,zj (ok.und hu),asInt,asIntOf,hcc]
  case makeSlice t l c=>
    exact .of_V (zna ok hr hn (hev l) (hev c) (zbC hl))
  case slice t x lo hi mx=>
    obtain ⟨hl2,rfl⟩:=zD hl;exact zjx.of_pure hr (zt4 ok (hev x) (zmc hev lo) (zmc hev hi) (zmc hev mx) hl2)
  case fieldAddr s x f=>
    obtain ⟨hl2,rfl⟩:=zD hl;exact zjx.of_pure hr (zm8 ok (hev x) hl2)
  case field t x f=>
    obtain ⟨hl2,rfl⟩:=zD hl;exact zjx.of_pure hr (zt2 ok (hev x) hl2)
  case indexAddr t x ix=>
    obtain ⟨hl2,rfl⟩:=zD hl;exact zjx.of_pure hr (zm9 ok (hev x) (hev ix) hl2)
  case index t x ix=>
    obtain ⟨hl2,rfl⟩:=zD hl;exact zjx.of_pure hr (zt1 ok (hev x) (hev ix) hl2)
  case lookup t x ix b=>
    obtain ⟨hl2,rfl⟩:=zD hl;exact zjx.of_pure hr (zrw ok hr (hev x) (hev ix) hl2)
  case mapUpdate t m k x=>
    obtain ⟨hl2,rfl⟩:=zcD hl;exact .of_U (zjh ok hr (hev m) (hev k) (hev x) hl2)
  case insert t m k x=>
    obtain ⟨hl2,rfl⟩:=zcD hl;exact .of_U (zjh ok hr (hev m) (hev k) (hev x) hl2)
  case extract t i=>
    unfold zfy at hl;split at hl
    case h_2=>cases hl
    rename_i vs he;obtain ⟨hl2,rfl⟩:=zD hl;have hx:=hev t;rw [he] at hx;obtain ⟨cs',hc,hcs⟩:=hx.tuple_inv;obtain ⟨v',hv',hvv⟩:=hcs.at hl2;rw [Array.getElem?_toList] at hv';exact zjx.of_pure hr ⟨v',by simp [Instr.extract,hc,hv'],hvv⟩
  case call c=>
    unfold zc1 at hl;split at hl
    · rename_i b hc;have:=zqr ok (ty:=o.type) (consts:=c.args.map λ| .const _=>Od | _=>Oc) (xs':=c.args.map cev) hr hn (zjE hev c.args) hl;obtain ⟨nx,v',w',G',h1,h2⟩:=this;refine ⟨nx,v',w',G', ?_,h2⟩;simp only [resolve,hc,Sem.run_bind,Sem.run_pure,Result.andThen_ok,invoke];exact h1
    · cases hl
    · cases hl
theorem zc2 {o:Op} {ev:Operand->zd} {f:zd} {as:List zd} (hl:aop T ev h o=Ob (.call f as)) :
 ∃ c fo,o=.call c/\c.callee=.value fo/\f=ev fo/\as=c.args.toList.map ev:=by
 cases o<;>simp only [aop] at hl<;>(try (cases hl; done))<;>(try (exact absurd hl zeF))<;>(try (exact absurd hl zgZ))<;>(try (exact absurd hl znd))
 case pick=>unfold zh9 at hl; split at hl<;>cases hl
 case alloc=>unfold zf1 at hl; split at hl<;>cases hl
 case box=>unfold zj1 at hl; split at hl<;>cases hl
 case nilCheck=>unfold zdz at hl; split at hl<;>cases hl
 case makeInterface=>unfold zcP at hl; split at hl<;>cases hl
 case makeFunc=>unfold zdA at hl; split at hl<;>cases hl
 case makeMap=>unfold zeT at hl; split at hl<;>cases hl
 case extract=>unfold zfy at hl; split at hl; exact absurd hl zeF; cases hl
 case call c=>
  unfold zc1 at hl;split at hl
  . exact absurd hl zmd
  . rename_i fo hc;cases hl;exact ⟨c,fo,rfl,hc,rfl,rfl⟩
  . cases hl
end
def fat (fn:FuncId) (kind:CallKind) (rnd:Option Nat) (tmps:Array Value) (ds:List Deferred) (todo:List Item):Frame:=
 { fn,tmps,todo,defers:=ds,mode:=.run,kind,roundOf:=rnd }
def evT (tmps:Array Value):Operand->Value
 | .tmp t=>tmps.getD t undef
 | .const v=>v
 | .global g=>.pointer (Ob ⟨g,0,Oe⟩)
 | .func f=>.func (.func f) #[] #[]
theorem zme (fn:FuncId) (kind:CallKind) (rnd:Option Nat) (tmps:Array Value) (ds:List Deferred) (todo:List Item):(fat fn kind rnd tmps ds todo).eval=evT tmps:=by
 funext x; cases x<;>rfl
def zlx (tmps:Array Value) (dst:Option Nat) (v:Value):Array Value:=
 match dst with
 | some d=>tmps.setIfInBounds d v
 | none=>tmps
theorem zf9 (tmps:Array Value) (dst:Option Nat) (v:Value):(zlx tmps dst v).size=tmps.size:=by cases dst<;>simp [zlx]
section moves
variable {P:Program} {fn:FuncId} {kind:CallKind} {rnd:Option Nat} {tmps:Array Value} {ds:List Deferred} {k:List Item} {cs:List Frame} {w:World}
theorem zwB:step P (lone (fat fn kind rnd tmps ds (.code .skip::k)) cs w)=.next (lone (fat fn kind rnd tmps ds k) cs w):=step_lone_go (by simp [stepG,stepG.exec,fat])
theorem zt7 {l:Nat}:step P (lone (fat fn kind rnd tmps ds (.code (.label l)::k)) cs w)=.next (lone (fat fn kind rnd tmps ds k) cs w):=step_lone_go (by simp [stepG,stepG.exec,fat])
theorem zqs {id:Nat}:step P (lone (fat fn kind rnd tmps ds (.inBlock id::k)) cs w)=.next (lone (fat fn kind rnd tmps ds k) cs w):=step_lone_go (by simp [stepG,stepG.exec,fat])
theorem zqt {c:Code}:step P (lone (fat fn kind rnd tmps ds (.inScope c::k)) cs w)=.next (lone (fat fn kind rnd tmps ds k) cs w):=step_lone_go (by simp [stepG,stepG.exec,fat])
theorem zvU {x y:Code}:step P (lone (fat fn kind rnd tmps ds (.code (.seq x y)::k)) cs w)=.next (lone (fat fn kind rnd tmps ds (.code x::.code y::k)) cs w):=step_lone_go (by simp [stepG,stepG.exec,fat])
theorem zwC {c:Operand} {x y:Code} {t:Bool} (h:evT tmps c=.bool t) :
 step P (lone (fat fn kind rnd tmps ds (.code (.cond c x y)::k)) cs w)=.next (lone (fat fn kind rnd tmps ds (.code (if t then x else y)::k)) cs w):=
 step_lone_go (by
  have:=congrFun (zme fn kind rnd tmps ds (.code (.cond c x y)::k)) c;simp only [fat] at this;simp [stepG,stepG.exec,fat,this,h])
theorem zhj {id:Nat} {c:Code}:step P (lone (fat fn kind rnd tmps ds (.code (.block id c)::k)) cs w)=.next (lone (fat fn kind rnd tmps ds (.code c::.inBlock id::k)) cs w):=step_lone_go (by simp [stepG,stepG.exec,fat])
theorem zwD {c:Code}:step P (lone (fat fn kind rnd tmps ds (.code (.loop c)::k)) cs w)=.next (lone (fat fn kind rnd tmps ds (.code c::.inLoop c::k)) cs w):=step_lone_go (by simp [stepG,stepG.exec,fat])
theorem zrx {c:Code}:step P (lone (fat fn kind rnd tmps ds (.inLoop c::k)) cs w)=.next (lone (fat fn kind rnd tmps ds (.code c::.inLoop c::k)) cs w):=step_lone_go (by simp [stepG,stepG.exec,fat])
theorem zjF {c:Code}:step P (lone (fat fn kind rnd tmps ds (.code (.scope c)::k)) cs w)=.next (lone (fat fn kind rnd tmps ds (.code c::.inScope c::k)) cs w):=step_lone_go (by simp [stepG,stepG.exec,fat])
theorem zwE {id:Nat} {k':List Item} (h:exitTo id k=Ob k'):step P (lone (fat fn kind rnd tmps ds (.code (.exit id)::k)) cs w)=.next (lone (fat fn kind rnd tmps ds k') cs w):=step_lone_go (by simp [stepG,stepG.exec,fat,h])
theorem zry {id:Nat} {ops:Array Oper}:step P (lone (fat fn kind rnd tmps ds (.code (.region id ops Oc)::k)) cs w)=.next (lone (fat fn kind rnd tmps ds (.inRegion ops (List.range ops.size)::k)) cs w):=step_lone_go (by simp [stepG,stepG.exec,fat])
theorem zwF {id:Nat} {ops:Array Oper}:step P (lone (fat fn kind rnd tmps ds (.code (.region id ops Od)::k)) cs w) =
 .next (lone (fat fn kind rnd tmps ds (.inRegion ops (Region.schedule (P.follows .mixedOrders) ops (w.tape w.drawn (.order fn id)))::k)) cs { w with drawn:=w.drawn+1 }):=
 step_lone_go (by simp [stepG,stepG.exec,fat,choose,Sem.run,Question.forced,Question.cut])
theorem zib {ops:Array Oper}:step P (lone (fat fn kind rnd tmps ds (.inRegion ops []::k)) cs w)=.next (lone (fat fn kind rnd tmps ds k) cs w):=step_lone_go (by simp [stepG,stepG.exec,fat])
theorem zhk {ops:Array Oper} {i:Nat} {is:List Nat} (v:Value):(fat fn kind rnd tmps ds (.inRegion ops (i::is)::k)).finish v=fat fn kind rnd (zlx tmps ((ops[i]?).bind (·.dst)) v) ds (.inRegion ops is::k):=by
 cases h:(ops[i]?).bind (·.dst)<;>simp [Frame.finish,fat,zlx,h]
theorem zly {ops:Array Oper} {i:Nat} {is:List Nat} (h:((ops[i]?).map (Region.wanted · (yielded ops tmps))).getD Oc=Oc) :
 step P (lone (fat fn kind rnd tmps ds (.inRegion ops (i::is)::k)) cs w)=.next (lone (fat fn kind rnd (zlx tmps ((ops[i]?).bind (·.dst)) undef) ds (.inRegion ops is::k)) cs w):=by
 rw [← zhk];exact step_lone_go (by simp [stepG,stepG.exec,fat,h])
theorem zvV {ops:Array Oper} {i:Nat} {is:List Nat} {o:Oper} (ho:ops[i]?=Ob o) (hw:Region.wanted o (yielded ops tmps)=Od) (hs:zeO o.op=Od) :
 stepG P Od { frame:=fat fn kind rnd tmps ds (.inRegion ops (i::is)::k),callers:=cs,status:=.running,dying:=Oe } w =
  stepG.apply P Od (fat fn kind rnd tmps ds (.inRegion ops (i::is)::k)) cs Oe (execOp (evT tmps) o) w:=by
 have he:=zme fn kind rnd tmps ds (.inRegion ops (i::is)::k);simp only [fat] at he;simp only [stepG,stepG.exec,stepG.oper,Frame.oper?,fat,ho,Option.map_some,Option.getD_some,hw,if_true,he];split
 . rename_i h1 h2;rw [h2] at hs;simp [zeO] at hs
 . rfl
theorem zkb {ops:Array Oper} {i:Nat} {is:List Nat} {o:Oper} {nx:Next} {v:Value} {w':World} (ho:ops[i]?=Ob o) (hw:Region.wanted o (yielded ops tmps)=Od) (hs:zeO o.op=Od)
 (hr:(execOp (evT tmps) o).run P w=.ok nx w') (hnx:nx=.value v\/(nx=.skip/\v=undef)) :
 step P (lone (fat fn kind rnd tmps ds (.inRegion ops (i::is)::k)) cs w)=.next (lone (fat fn kind rnd (zlx tmps o.dst v) ds (.inRegion ops is::k)) cs w'):=by
 have hf:=zhk (fn:=fn) (kind:=kind) (rnd:=rnd) (tmps:=tmps) (ds:=ds) (k:=k) (ops:=ops) (i:=i) (is:=is) v;rw [ho] at hf;simp only [Zs] at hf;refine step_lone_go ?_;rw [zvV ho hw hs,← hf];rcases hnx with rfl | ⟨rfl,rfl⟩<;>simp [stepG.apply,hr]
def ziL (P:Program):Next->Option Frame
 | .enter f args=>Ob (Frame.enter P f args .normal)
 | .round l f tmps a b=>Ob (Frame.round l f tmps a b .normal)
 | _=>Oe
theorem zlz {ops:Array Oper} {i:Nat} {is:List Nat} {o:Oper} {nx:Next} {s:Frame} {w':World} (ho:ops[i]?=Ob o) (hw:Region.wanted o (yielded ops tmps)=Od) (hs:zeO o.op=Od)
 (hr:(execOp (evT tmps) o).run P w=.ok nx w') (hnx:ziL P nx=Ob s) :
 step P (lone (fat fn kind rnd tmps ds (.inRegion ops (i::is)::k)) cs w)=.next (lone s (fat fn kind rnd tmps ds (.inRegion ops (i::is)::k)::cs) w'):=by
 refine step_lone_go ?_;rw [zvV ho hw hs];cases nx<;>simp [ziL] at hnx<;>subst hnx<;>simp [stepG.apply,hr,fat]
end moves
def ztM (ds:List Deferred) (w:World):Prop:=
 ∀ d∈ds,∃ r,d={ target:=.collected r,args:=#[] }/\w.heap[r]?=Ob (.deferred (Ob []))
def zmf (ds:List Deferred):Prop:=ds.Pairwise λd d'=>d≠d'
theorem H0.notMarker {base:Nat} {G:Emb} {h:za} {w:World} (hr:H0 base G h w) {b:Nat} {l:Loc} (hb:G b=Ob l) (ha:Alive h b) {r:Nat} {x:Option (List Deferred)} (hm:w.heap[r]?=Ob (.deferred x)):l.c≠r:=by
 rintro rfl
 have hblk:=hr.blk b l hb;unfold Alive at ha;cases hg:h.get b with
 | none=>rw [hg] at ha; exact ha
 | some y=>
  rw [hg] at ha hblk;cases y with
  | arr cells ro=>obtain ⟨cc,el,fz,h1,_⟩:=hblk; rw [hm] at h1; cases h1
  | mp es=>obtain ⟨_,ces,clk,h1,_⟩:=hblk; rw [hm] at h1; cases h1
  | loop L=>obtain ⟨_,L',h1,_⟩:=hblk; rw [hm] at h1; cases h1
  | dead=>exact ha
theorem ztM.trans {base:Nat} {G G':Emb} {h h':za} {w w':World} {ds:List Deferred} (hr:zeV base G h w) (t:Trans G h w G' h' w') (hd:ztM ds w):ztM ds w':=by
 intro d hd';obtain ⟨r,h1,h2⟩:=hd d hd';refine ⟨r,h1, ?_⟩;have hlt:r<w.heap.size:=(Array.getElem?_eq_some_iff.1 h2).1;rw [t.frame r hlt (λb l hb ho=>hr.notMarker hb ho.alive h2)];exact h2
def zrz (G:Emb) (h:za) (rnd:Option Nat):Prop:=∀ l',rnd=Ob l'->∃ la loc L,G la=Ob loc/\loc.c=l'/\h.get la=Ob (.loop L)
theorem zrz.trans {G G':Emb} {h h':za} {w w':World} {rnd:Option Nat} (hr:zrz G h rnd) (t:Trans G h w G' h' w'):zrz G' h' rnd:=by
 intro l' e;obtain ⟨la,loc,L,h1,h2,h3⟩:=hr l' e;obtain ⟨L',h4,_⟩:=t.loops la loc L h1 h3;exact ⟨la,loc,L',t.ext _ _ h1,h2,h4⟩
inductive zmg where
 | normal
 | exit (id:Nat)
 | goto (l:Nat)
 | ret
 | pan (v:Value)
def zAX (G:Emb):zaQ->zmg->Prop
 | .normal,.normal=>True
 | .exit a,.exit b=>a=b
 | .goto a,.goto b=>a=b
 | .ret,.ret=>True
 | .pan v,.pan v'=>zal G v v'
 | _,_=>False
def notCall:List Item->Bool
 | .call _ _ _ _::_=>Oc
 | _=>Od
def Lands (P:Program) (m:Machine) (fn:FuncId) (kind:CallKind) (rnd:Option Nat) (k:List Item) (cs:List Frame) (e:zmg) (tmps:Array Value) (ds:List Deferred) (w:World):Prop:=
 match e with
 | .normal=>Steps P m (lone (fat fn kind rnd tmps ds k) cs w)
 | .exit id=>∃ k2,exitTo id k2=exitTo id k/\Steps P m (lone (fat fn kind rnd tmps ds (.code (.exit id)::k2)) cs w)
 | .goto l=>∃ k2,gotoIn l k2=gotoIn l k/\Steps P m (lone (fat fn kind rnd tmps ds (.code (.goto l)::k2)) cs w)
 | .ret=>∃ k2,Steps P m (lone (fat fn kind rnd tmps ds (.code .ret::k2)) cs w)
 | .pan v=>∃ k2,notCall k2=Od/\Steps P m (lone { fat fn kind rnd tmps ds k2 with mode:=.panicking [{ v,recovered:=Oc }] } cs w)
theorem Lands.of_steps {P:Program} {m m₁:Machine} {fn:FuncId} {kind:CallKind} {rnd:Option Nat} {k:List Item} {cs:List Frame} {e:zmg} {tmps:Array Value} {ds:List Deferred} {w:World}
 (h:Steps P m m₁) (h':Lands P m₁ fn kind rnd k cs e tmps ds w):Lands P m fn kind rnd k cs e tmps ds w:=by
 cases e with
 | normal=>exact h.trans h'
 | exit id=>obtain ⟨k2,a,b⟩:=h'; exact ⟨k2,a,h.trans b⟩
 | goto l=>obtain ⟨k2,a,b⟩:=h'; exact ⟨k2,a,h.trans b⟩
 | ret=>obtain ⟨k2,b⟩:=h'; exact ⟨k2,h.trans b⟩
 | pan v=>obtain ⟨k2,a,b⟩:=h'; exact ⟨k2,a,h.trans b⟩
theorem Lands.pass {P:Program} {m:Machine} {fn:FuncId} {kind:CallKind} {rnd:Option Nat} {x:Item} {k:List Item} {cs:List Frame} {e:zmg} {tmps:Array Value} {ds:List Deferred} {w:World}
 (hx:x.plain=Od) (he:e≠.normal) (h:Lands P m fn kind rnd (x::k) cs e tmps ds w):Lands P m fn kind rnd k cs e tmps ds w:=by
 cases e with
 | normal=>exact absurd rfl he
 | exit id=>obtain ⟨k2,a,b⟩:=h; exact ⟨k2,by rw [a]; cases x<;>simp_all [exitTo,Item.plain],b⟩
 | goto l=>obtain ⟨k2,a,b⟩:=h; exact ⟨k2,by rw [a]; cases x<;>simp_all [gotoIn,Item.plain],b⟩
 | ret=>exact h
 | pan v=>exact h
structure Post (base:Nat) (G:Emb) (h:za) (w:World) (ds:List Deferred) (n:Nat) (e:zaQ) (fr':zi) (h':za) (e':zmg) (tmps':Array Value) (ds':List Deferred) (w':World) (G':Emb):Prop where
 exit:zAX G' e e'
 size:tmps'.size=n
 frame:zj4 G' fr' tmps'
 heap:zeV base G' h' w'
 trans:Trans G h w G' h' w'
 dsok:ztM ds' w'
 dsnew:∃ news,ds'=news++ds/\∀ d∈news,∀ r,d={ target:=.collected r,args:=#[] }->w.heap.size<=r
 dsnd:zmf ds'
structure Pre (base:Nat) (G:Emb) (h:za) (w:World) (ds:List Deferred) (rnd:Option Nat) (n:Nat) (fr:zi) (tmps:Array Value):Prop where
 size:tmps.size=n
 frame:zj4 G fr tmps
 heap:zeV base G h w
 dsok:ztM ds w
 dsnd:zmf ds
 rndok:zrz G h rnd
 norm:rnd=Oe\/ds=[]
theorem Pre.post {base:Nat} {G G':Emb} {h h':za} {w w':World} {ds ds':List Deferred} {rnd:Option Nat} {n:Nat} {fr fr':zi} {tmps tmps':Array Value} {e:zaQ} {e':zmg}
 (p:Pre base G h w ds rnd n fr tmps) (q:Post base G h w ds n e fr' h' e' tmps' ds' w' G') (hn:rnd=Oe\/ds'=[]):Pre base G' h' w' ds' rnd n fr' tmps':=
 ⟨q.size,q.frame,q.heap,q.dsok,q.dsnd,p.rndok.trans q.trans,hn⟩
theorem Post.andThen {base:Nat} {G G₁ G₂:Emb} {h h₁ h₂:za} {w w₁ w₂:World} {ds ds₁ ds₂:List Deferred} {n:Nat} {e e1:zaQ} {fr₁ fr₂:zi} {e' e1':zmg} {tmps₁ tmps₂:Array Value}
 (a:Post base G h w ds n e1 fr₁ h₁ e1' tmps₁ ds₁ w₁ G₁) (b:Post base G₁ h₁ w₁ ds₁ n e fr₂ h₂ e' tmps₂ ds₂ w₂ G₂):Post base G h w ds n e fr₂ h₂ e' tmps₂ ds₂ w₂ G₂:=by
 obtain ⟨n1,e1,h1⟩:=a.dsnew;obtain ⟨n2,e2,h2⟩:=b.dsnew;refine ⟨b.exit,b.size,b.frame,b.heap,a.trans.trans b.trans,b.dsok,⟨n2++n1,by rw [e2,e1,List.append_assoc], ?_⟩,b.dsnd⟩;intro d hd r hr;rcases List.mem_append.1 hd with hd | hd
 . exact Nat.le_trans a.trans.size (h2 d hd r hr)
 . exact h1 d hd r hr
def Heads (c:Code) (x:Item):Prop:=x=.code c\/∃ c',c=.loop c'/\x=.inLoop c'
def RunOk (P:Program) (base:Nat) (run:Runner):Prop:=
 ∀ (c:Code) (fr:zi) (h:za) (e:zaQ) (fr':zi) (h':za),run c fr h=Ob (e,fr',h') ->
  ∀ (n:Nat),zdc n c=Od->∀ (G:Emb) (w:World) (ds:List Deferred) (rnd:Option Nat) (tmps:Array Value),Pre base G h w ds rnd n fr tmps ->
   ∀ (fn:FuncId) (kind:CallKind) (k:List Item) (cs:List Frame) (x:Item),Heads c x->∃ e' tmps' ds' w' G',Post base G h w ds n e fr' h' e' tmps' ds' w' G'/\(rnd=Oe\/ds'=[]) /\
    Lands P (lone (fat fn kind rnd tmps ds (x::k)) cs w) fn kind rnd k cs e' tmps' ds' w'
inductive ztN where
 | ret (v:Value)
 | pan (v:Value)
def zne (G:Emb):zj2->ztN->Prop
 | .ret v,.ret v'=>zal G v v'
 | .pan v,.pan v'=>zal G v v'
 | _,_=>False
def ztN.frame (c:Frame):ztN->Frame
 | .ret v=>c.finish v
 | .pan v=>c.raise [{ v,recovered:=Oc }]
def zlA (P:Program) (base:Nat) (call:Caller):Prop:=
 ∀ (f:zd) (args:List zd) (h:za) (r:zj2) (h':za),call f args h=Ob (r,h') ->
  ∀ (G:Emb) (w:World) (f':Value) (args':Array Value),zal G f f'->zcL G args args'.toList->zeV base G h w ->
   ∃ nx s,(do let d ← Deferred.ofValue f' args'; invoke d.target d.args:Sem Next).run P w=.ok nx w/\ziL P nx=Ob s /\
    ∀ (c:Frame) (cs:List Frame),∃ r' w' G',zne G' r r'/\zeV base G' h' w'/\Trans G h w G' h' w'/\Steps P (lone s (c::cs) w) (lone (r'.frame c) cs w')
theorem zkc {G:Emb} {fr:zi} {tmps:Array Value} (hf:zj4 G fr tmps) (x:Operand):zal G (fr.op x) (evT tmps x):=by
 cases x with
 | tmp t=>exact hf t
 | const v=>
  show zal G ((zhM v).getD .undef) v;cases h:zhM v with
  | none=>exact .undef v
  | some y=>exact zeU G v y h
 | global g=>exact .undef _
 | func f=>exact .func _ _ [] [] #[] #[] (.inr ⟨f,rfl,rfl⟩) rfl rfl Ol Ol
theorem zj4.putDst {G:Emb} {fr:zi} {tmps:Array Value} {dst:Option Nat} {v:zd} {v':Value} (h:zj4 G fr tmps) (hd:∀ d,dst=Ob d->d<tmps.size) (hv:zal G v v'):zj4 G (putDst fr dst v) (zlx tmps dst v'):=by
 cases dst with
 | none=>exact h
 | some d=>exact h.put (hd d rfl) hv
theorem znf {G:Emb} {fr:zi} {tmps:Array Value} {ops:Array Oper} {o:Oper} {b:Bool} (hf:zj4 G fr tmps) (hsz:∀ o∈ops.toList,∀ d,o.dst=Ob d->d<tmps.size) (hl:awanted ops.toList fr o.guard=Ob b):Region.wanted o (yielded ops tmps)=b:=by
 unfold awanted at hl;unfold Region.wanted;split at hl
 ·rename_i hg; simp at hl; subst hl; simp [hg]
 ·rename_i j want hg;simp only [hg];unfold yielded;rw [Array.getElem?_toList] at hl;cases hd:(ops[j]?).bind (λo=>o.dst) with
  | none=>rw [hd] at hl; simp at hl; subst hl; simp
  | some d=>
   rw [hd] at hl;simp only at hl;have hlt:d<tmps.size:=by
    cases ho:ops[j]? with
    | none=>rw [ho] at hd; cases hd
    | some o'=>
     rw [ho] at hd;exact hsz o' (by rw [Array.mem_toList_iff]; exact Array.mem_of_getElem? ho) d hd
   have hv:=hf d;have e:tmps.getD d undef=tmps[d]:=by simp [Array.getD,hlt]
   rw [e] at hv;simp only [Zs,Array.getElem?_eq_getElem hlt];generalize tmps[d]=y at hv;generalize fr.ev d=x at hv hl;cases hv<;>simp at hl<;>subst hl<;>simp
section
variable {T:Tab} {P:Program} (ok:T.Ok P) {base:Nat}
include ok in
theorem zpl {call:Caller} (hc:zlA P base call) {G:Emb} {h:za} {w:World} {fr:zi} {tmps:Array Value} {o:Oper} {r:zj2} {h':za}
    (hf:zj4 G fr tmps) (hr:zeV base G h w) (hl:astep T call fr.op o.op h=Ob (r,h')) (hs:zeO o.op=Od)
    {ops:Array Oper} {i:Nat} (ho:ops[i]?=Ob o) (hw:Region.wanted o (yielded ops tmps)=Od)
    (fn:FuncId) (kind:CallKind) (rnd:Option Nat) (ds:List Deferred) (is:List Nat) (k:List Item) (cs:List Frame) :
    ∃ r' w' G',zne G' r r'/\zeV base G' h' w'/\Trans G h w G' h' w'/\Steps P (lone (fat fn kind rnd tmps ds (.inRegion ops (i::is)::k)) cs w) (lone
      (match r' with
        | .ret v'=>fat fn kind rnd (zlx tmps o.dst v') ds (.inRegion ops is::k)
        | .pan v'=>{ fat fn kind rnd tmps ds (.inRegion ops (i::is)::k) with mode:=.panicking [{ v:=v',recovered:=Oc }] }) cs w'):=by
  unfold astep at hl;split at hl
  · rename_i v h2 ha;cases hl;obtain ⟨nx,v',w',G',h1,h2,h3,h4,h5⟩:=zvT ok (o:=o) hr.toH0 (λ_=>hr.none_next) (λx=>zkc hf x) ha;exact ⟨.ret v',w',G',h3,h4.toH h5 hr,h5,.one (zkb ho hw hs h1 h2)⟩
  · rename_i f args ha;obtain ⟨c,fo,hop,hcal,rfl,rfl⟩:=zc2 ha;obtain ⟨nx,s,h1,h2,h3⟩:=hc _ _ _ _ _ hl G w (evT tmps fo) (c.args.map (evT tmps)) (zkc hf fo) (zjE (λx=>zkc hf x) c.args) hr;have hrun:(execOp (evT tmps) o).run P w=.ok nx w:=by
      unfold execOp;rw [hop];simp only [resolve,hcal];exact h1
    have hst:=zlz (fn:=fn) (kind:=kind) (rnd:=rnd) (ds:=ds) (k:=k) (cs:=cs) (is:=is) ho hw hs hrun h2;obtain ⟨r',w',G',h4,h5,h6,h7⟩:=h3 (fat fn kind rnd tmps ds (.inRegion ops (i::is)::k)) cs;refine ⟨r',w',G',h4,h5,h6, ?_⟩;have hall:=Steps.head hst h7;cases r' with
    | ret v'=>
      have e:(ztN.ret v').frame (fat fn kind rnd tmps ds (.inRegion ops (i::is)::k))=fat fn kind rnd (zlx tmps o.dst v') ds (.inRegion ops is::k):=by
        simp only [ztN.frame];rw [zhk,ho]; rfl
      rw [e] at hall;exact hall
    | pan v'=>exact hall
  · cases hl
def zrA (n:Nat) (ops:Array Oper):Prop:=∀ o∈ops.toList,(∀ d,o.dst=Ob d->d<n)/\zeO o.op=Od
theorem zt8 {n:Nat} {ops:Array Oper} (h:ops.toList.all (λo=>zwy n o&&zeO o.op)=Od):zrA n ops:=by
 intro o ho;have:=List.all_eq_true.1 h o ho;simp only [Bool.and_eq_true] at this;refine ⟨λd hd=>?_,this.2⟩;have h1:=this.1;unfold zwy at h1;rw [hd] at h1;simpa using h1
include ok in
theorem zot {call:Caller} (hc:zlA P base call) {ops:Array Oper} {n:Nat} (hops:zrA n ops) :
    ∀ (rest:List Oper) (i:Nat) (fr:zi) (h:za) (e:zaQ) (fr':zi) (h':za),ops.toList.drop i=rest->aops T call ops.toList rest fr h=Ob (e,fr',h') ->
      ∀ (G:Emb) (w:World) (ds:List Deferred) (rnd:Option Nat) (tmps:Array Value),Pre base G h w ds rnd n fr tmps ->
        ∀ (fn:FuncId) (kind:CallKind) (k:List Item) (cs:List Frame),∃ e' tmps' ds' w' G',Post base G h w ds n e fr' h' e' tmps' ds' w' G'/\(rnd=Oe\/ds'=[]) /\
          Lands P (lone (fat fn kind rnd tmps ds (.inRegion ops (List.range' i rest.length)::k)) cs w) fn kind rnd k cs e' tmps' ds' w'
  | [],i,fr,h,e,fr',h',_,hl,G,w,ds,rnd,tmps,pre,fn,kind,k,cs=>by
    simp only [aops] at hl;cases hl;exact ⟨.normal,tmps,ds,w,G,⟨trivial,pre.size,pre.frame,pre.heap,.refl _ _ _,pre.dsok,⟨[],rfl,by simp⟩,pre.dsnd⟩,pre.norm,Steps.one zib⟩
  | o::rest,i,fr,h,e,fr',h',hd,hl,G,w,ds,rnd,tmps,pre,fn,kind,k,cs=>by
    have hi:ops.toList[i]?=Ob o:=by
      have:=congrArg (λl=>l[0]?) hd;simpa [List.getElem?_drop] using this
    have hoi:ops[i]?=Ob o:=by simpa using hi
    have hmem:o∈ops.toList:=List.mem_of_getElem? hi;obtain ⟨hdst,hsv⟩:=hops o hmem;have hd2:ops.toList.drop (i+1)=rest:=by
      have:=congrArg (λl=>l.drop 1) hd;simpa [List.drop_drop] using this
    have hlt:∀ o∈ops.toList,∀ d,o.dst=Ob d->d<tmps.size:=λo' ho' d hd'=>by rw [pre.size]; exact (hops o' ho').1 d hd'
    simp only [aops] at hl;rw [show List.range' i (o::rest).length=i::List.range' (i+1) rest.length from by simp [List.range'_succ]];cases hwt:awanted ops.toList fr o.guard with
    | none=>rw [hwt] at hl; cases hl
    | some b=>
      have hw:=znf pre.frame hlt hwt;rw [hwt] at hl;cases b with
      | false=>
        simp only at hl;have hst:=zly (P:=P) (fn:=fn) (kind:=kind) (rnd:=rnd) (tmps:=tmps) (ds:=ds) (k:=k) (cs:=cs) (w:=w) (ops:=ops) (i:=i) (is:=List.range' (i+1) rest.length) (by simp [hoi,hw]);rw [hoi] at hst;simp only [Zs] at hst;obtain ⟨e',tmps',ds',w',G',h1,h2,h3⟩:=zot hc hops rest (i+1) _ h e fr' h' hd2 hl G w ds rnd (zlx tmps o.dst undef)
          ⟨by rw [zf9]; exact pre.size,pre.frame.putDst (λd hd'=>hlt o hmem d hd') (.tuple' (.nil _)),pre.heap,pre.dsok,pre.dsnd,pre.rndok,pre.norm⟩ fn kind k cs
        exact ⟨e',tmps',ds',w',G',h1,h2,h3.of_steps (.one hst)⟩
      | true=>
        simp only at hl;cases hst:astep T call fr.op o.op h with
        | none=>rw [hst] at hl; cases hl
        | some rr=>
          obtain ⟨r,h1⟩:=rr;rw [hst] at hl;obtain ⟨r',w1,G1,hrel,hr1,ht1,hsteps⟩:=zpl ok hc pre.frame pre.heap hst hsv hoi hw fn kind rnd ds (List.range' (i+1) rest.length) k cs;cases r with
          | ret v=>
            cases r' with
            | pan _=>exact hrel.elim
            | ret v'=>
              simp only at hl;obtain ⟨e',tmps',ds',w',G',q1,q2,q3⟩:=zot hc hops rest (i+1) _ h1 e fr' h' hd2 hl G1 w1 ds rnd (zlx tmps o.dst v')
                ⟨by rw [zf9]; exact pre.size,(pre.frame.mono ht1.ext).putDst (λd hd'=>hlt o hmem d hd') hrel,hr1,pre.dsok.trans pre.heap ht1,pre.dsnd,pre.rndok.trans ht1,pre.norm⟩ fn kind k cs
              refine ⟨e',tmps',ds',w',G', ?_,q2,q3.of_steps hsteps⟩;exact ⟨q1.exit,q1.size,q1.frame,q1.heap,ht1.trans q1.trans,q1.dsok,let ⟨ns,a,b⟩:=q1.dsnew; ⟨ns,a,λd hd' r hr'=>Nat.le_trans ht1.size (b d hd' r hr')⟩,q1.dsnd⟩
          | pan v=>
            cases r' with
            | ret _=>exact hrel.elim
            | pan v'=>
              simp only at hl;cases hl;exact ⟨.pan v',tmps,ds,w1,G1,⟨hrel,pre.size,pre.frame.mono ht1.ext,hr1,ht1,pre.dsok.trans pre.heap ht1,⟨[],rfl,by simp⟩,pre.dsnd⟩,pre.norm,⟨_,rfl,hsteps⟩⟩
end
section
variable {T:Tab} {P:Program} (ok:T.Ok P) {base:Nat}
theorem argFrame_ev:∀ (vs:List zd) (i:Nat) (fr:zi) (t:Nat),zi.ev (zcK i vs fr) t=if i<=t then (match vs[t-i]? with | some v=>v | none=>fr.ev t) else fr.ev t
 | [],i,fr,t=>by simp [zcK]
 | v::vs,i,fr,t=>by
  simp only [zcK];rw [argFrame_ev vs (i+1),zi.ev_set];by_cases h:i<=t
  ·rw [if_pos h];by_cases e:t=i
   ·subst e;rw [if_neg J]; simp
   ·rw [if_pos J,show t-i=(t-(i+1))+1 from by omega];simp [e]
  ·rw [if_neg h,if_neg J,if_neg J]
theorem zt9 {G:Emb} {args:List zd} {args':Array Value} (h:zcL G args args'.toList) (m:Nat):zj4 G (zcK 0 args .leaf) (args'++Array.replicate m undef):=by
 intro t;rw [argFrame_ev];simp only [Nat.zero_le,if_true,Nat.sub_zero];cases hv:args[t]? with
 | none=>exact .undef _
 | some v=>
  obtain ⟨v',hv',hvv⟩:=h.at hv;have ht:t<args'.size:=by
   rw [Array.getElem?_toList] at hv';exact (Array.getElem?_eq_some_iff.1 hv').1
  have e:(args'++Array.replicate m undef).getD t undef=v':=by
   rw [Array.getD_eq_getD_getElem?,Array.getElem?_append_left ht];rw [Array.getElem?_toList] at hv';rw [hv']; rfl
  rw [e];exact hvv
theorem zkd {fr:Frame} (hm:fr.mode=.returning\/∃ ch,fr.mode=.panicking ch) (cs:List Frame):∀ (ds:List Deferred) (w:World),ztM ds w->zmf ds ->
    ∃ w',Steps P (lone { fr with defers:=ds } cs w) (lone { fr with defers:=[] } cs w')/\w'.heap.size=w.heap.size/\w'.os=w.os/\w'.tape=w.tape/\w'.output=w.output /\
      (∀ k,(∀ d∈ds,d≠{ target:=.collected k,args:=#[] })->w'.heap[k]?=w.heap[k]?)
  | [],w,_,_=>⟨w,.refl _ _,rfl,rfl,rfl,rfl,λ_ _=>rfl⟩
  | d::ds,w,hd,hn=>by
    obtain ⟨r,rfl,hr⟩:=hd d (List.mem_cons_self ..);have hlt:r<w.heap.size:=(Array.getElem?_eq_some_iff.1 hr).1
    let w1:World:={ w with heap:=w.heap.setIfInBounds r (.deferred Oe) }
    have hstep:step P (lone { fr with defers:={ target:=.collected r,args:=#[] }::ds } cs w)=.next (lone { fr with defers:=ds } cs w1):=by
      refine step_lone_go ?_;have htd:(Instr.takeDeferred r).run P w=.ok [] w1:=by
        simp [Instr.takeDeferred,getObj,setObj,Sem.run,hr,w1]
      rcases hm with hm | ⟨ch,hm⟩<;>simp [stepG,hm,unwind,Sem.runT_eq,htd]
    have hd1:ztM ds w1:=by
      intro d' hd';obtain ⟨r',e,h'⟩:=hd d' (List.mem_cons_of_mem _ hd');refine ⟨r',e, ?_⟩;have hne:r≠r':=by
        rintro rfl
        have:=(List.pairwise_cons.1 hn).1 d' hd';exact this e.symm
      simp [w1,Array.getElem?_setIfInBounds,hne,h']
    obtain ⟨w',h1,h2,h3,h4,h5,h6⟩:=zkd hm cs ds w1 hd1 (List.pairwise_cons.1 hn).2;refine ⟨w',.head hstep h1,by rw [h2]; simp [w1],h3,h4,h5,λk hk=>?_⟩;rw [h6 k (λd' hd'=>hk d' (List.mem_cons_of_mem _ hd'))];have hne:r≠k:=by
      rintro rfl
      exact hk _ (List.mem_cons_self ..) rfl
    simp [w1,Array.getElem?_setIfInBounds,hne]
theorem zeV.unmark {G:Emb} {h:za} {w w':World} {ds:List Deferred} (hr:zeV base G h w) (hd:ztM ds w) (hsz:w'.heap.size=w.heap.size)
    (hk:∀ k,(∀ d∈ds,d≠{ target:=.collected k,args:=#[] })->w'.heap[k]?=w.heap[k]?):zeV base G h w':=by
  refine ⟨⟨λb l hb=>by rw [hsz]; exact hr.clt b l hb,λb l hb=>?_,hr.inj,by rw [hsz]; exact hr.base⟩,hr.lt⟩;have hblk:=hr.blk b l hb;cases hg:h.get b with
  | none=>rw [hg] at hblk; exact hblk.elim
  | some y=>
    by_cases hy:y=.dead
    · subst hy; trivial
    · rw [hg] at hblk;refine hblk.mono (.refl _) (hk _ ?_);intro d hd' e;obtain ⟨r,e2,h2⟩:=hd d hd';rw [e] at e2;simp at e2;subst e2;exact hr.notMarker hb (by unfold Alive; rw [hg]; cases y<;>first | trivial | exact hy rfl) h2 rfl
include ok in
theorem zqu {G:Emb} {h:za} {w:World} {t:TypeId} {b off:Nat} {l:Loc} {v:zd} (hr:zeV base G h w) (hb:G b=Ob l) (hl:aload T t h (.ptr b off)=Ob v) :
 ∃ v',(loadVar t ⟨l.c,l.o+off,Oe⟩).run P w=.ok v' w/\zal G v v':=by
 unfold aload at hl;simp only at hl;split at hl
 case h_2=>cases hl
 rename_i cells ro hg;obtain ⟨cc,el,fz,h1,h2,h3,h4,h5⟩:=zm6 hr.toH0 hb hg;unfold apart at hl;split at hl
 . rename_i hagg;split at hl
   case h_2=>cases hl
   rename_i n hn;split at hl
   case isFalse=>cases hl
   rename_i hle;cases hl;obtain ⟨j,hj,hjs⟩:=ok.size hn;refine ⟨.agg ((cc.toList.drop (l.o+off)).take n).toArray, ?_,.agg' (zgX h4 off n hle J)⟩;simp only [loadVar,Sem.run_bind,Sem.run_pure,Result.andThen_ok,zfv ok hagg,if_true,zaj hj,hjs];rw [zj7 w l.c (l.o+off) n cc el fz h1 J];rfl
 . rename_i hagg;have hi:off<cells.length:=(List.getElem?_eq_some_iff.1 hl).1;obtain ⟨v',hv',hvv⟩:=h4.at hl;rw [List.getElem?_take,if_pos hi,List.getElem?_drop,Array.getElem?_toList] at hv';refine ⟨v', ?_,hvv⟩;simp only [loadVar,Sem.run_bind,Sem.run_pure,Result.andThen_ok,zfv ok hagg,Bool.false_eq_true,if_false,run_load];rw [cell_of_row w l.c (l.o+off) cc el fz h1,hv']
 . cases hl
def zng (tmps:Array Value):ResultVar->Sem Value
 | .tmp t=>pure (tmps.getD t undef)
 | .cell a t=>do loadVar t (← asAddr (tmps.getD a undef))
theorem zqv (F:Func) (tmps:Array Value):results F tmps=(do
 let vs ← F.results.mapM (zng tmps)
 pure (if h:vs.size=1 then vs[0] else .tuple vs):Sem Value):=by
 unfold results;have e:(λ(x:ResultVar)=>match x with
  | .tmp t=>(pure (tmps.getD t undef):Sem Value)
  | .cell a t=>do loadVar t (← asAddr (tmps.getD a undef)))=zng tmps:=by
  funext x; cases x<;>rfl
 rw [← e];rfl
include ok in
theorem zlB {G:Emb} {h:za} {w:World} {fr:zi} {tmps:Array Value} (hr:zeV base G h w) (hf:zj4 G fr tmps):∀ (rs:List ResultVar) (vs:List zd),aresults T rs fr h=Ob vs ->
    ∃ vs':List Value,(rs.mapM (zng tmps)).run P w=.ok vs' w/\zcL G vs vs'
  | [],vs,hl=>by simp [aresults] at hl; subst hl; exact ⟨[],rfl,.nil _⟩
  | r::rs,vs,hl=>by
    simp only [aresults] at hl;cases h1:aresult T fr h r with
    | none=>rw [h1] at hl; cases hl
    | some v=>
      cases h2:aresults T rs fr h with
      | none=>rw [h1,h2] at hl; cases hl
      | some us=>
        rw [h1,h2] at hl;cases hl;obtain ⟨us',h3,h4⟩:=zlB hr hf rs us h2;have key:∃ v',(zng tmps r).run P w=.ok v' w/\zal G v v':=by
          cases r with
          | tmp t=>
            simp only [aresult] at h1;cases h1;exact ⟨_,rfl,hf t⟩
          | cell a t=>
            simp only [aresult] at h1;have hp:=hf a;have h1':=h1;unfold aload at h1';split at h1'
            case h_2=>cases h1'
            rename_i b off he;rw [he] at hp h1;generalize hcc:tmps.getD a undef=cc at hp;cases hp with
            | ptr _ _ l hb=>
            obtain ⟨v',k1,k2⟩:=zqu (P:=P) ok hr hb h1;refine ⟨v', ?_,k2⟩;simp only [zng,Sem.run_bind,hcc,asAddr,Sem.run_pure,Result.andThen_ok];exact k1
        obtain ⟨v',k1,k2⟩:=key;refine ⟨v'::us', ?_,.cons k2 h4⟩;rw [List.mapM_cons];simp only [Sem.run_bind,k1,Result.andThen_ok,h3,Sem.run_pure]
theorem zqw {G:Emb} {vs:List zd} {vs':List Value} (h:zcL G vs vs'):zal G (packed vs) (if h:vs'.toArray.size=1 then vs'.toArray[0] else .tuple vs'.toArray):=by
 match vs,vs',h with
 | [],[],h=>exact .tuple' h
 | [v],[v'],h=>exact h.head
 | v::u::vs,v'::u'::vs',h=>exact .tuple' h
 | [],_::_,h=>exact absurd h.1 Ol
 | _::_,[],h=>exact absurd h.1 Ol
 | [_],_::_::_,h=>exact absurd h.1 Ol
 | _::_::_,[_],h=>exact absurd h.1 Ol
def zwG (base:Nat) (G:Emb) (h:za) (w:World) (r:zj2) (h':za) (e:Ending) (w':World):Prop:=
 ∃ G',zeV base G' h' w'/\Trans G h w G' h' w'/\((∃ v v',r=.ret v/\e=.returned v'/\zal G' v v')\/(∃ v v',r=.pan v/\e=.panicked [{ v:=v',recovered:=Oc }]/\zal G' v v'))
include ok in
theorem zwH {run:Runner} (hrun:RunOk P base run) {f:FuncId} {args:List zd} {h:za} {r:zj2} {h':za} (hl:zeE T run f args h=Ob (r,h')) {G:Emb} {w:World} {args':Array Value}
    (ha:zcL G args args'.toList) (hr:zeV base G h w) :
    (∃ F, P.funcs[f]? = some F ∧ (F.name == "runtime.NumGoroutine") = false ∧ F.body.isSome = true) ∧ Calls P f args' w (zwG base G h w r h') := by
  unfold zeE at hl;split at hl
  case h_2=>cases hl
  rename_i F hF;obtain ⟨hPF,hname,hcode⟩:=ok.funcs f F hF;cases hbl:Nat.blt F.ntmps args.length with
  | true=>rw [hbl] at hl; cases hl
  | false=>
  rw [hbl] at hl;simp only [cond_false] at hl;have hlen:args.length≤F.ntmps:=by
    have:¬ F.ntmps<args.length:=by
      intro hh;have:Nat.blt F.ntmps args.length=Od:=by rw [Nat.blt_eq]; exact hh
      rw [hbl] at this; cases this
    omega
  split at hl
  case h_2=>cases hl
  rename_i c hc;refine ⟨⟨F,hPF,hname,by rw [hc]; rfl⟩, ?_⟩;have hcok:=hcode c hc;have hsz:args'.size=args.length:=by rw [ha.1]; simp
  intro cs;have henter:Frame.enter P f args' .normal=fat f .normal Oe (args'++Array.replicate (F.ntmps-args'.size) undef) [] [.code c]:=by
    simp [Frame.enter,fat,hPF,hc]
  have hpre:Pre base G h w [] Oe F.ntmps (zcK 0 args .leaf) (args'++Array.replicate (F.ntmps-args'.size) undef):=
    ⟨by simp; omega,zt9 ha _,hr,(fun d hd=>by cases hd),.nil,(fun l' e=>by cases e),.inl rfl⟩
  rw [henter]
  -- the frame that returns
  have finish:∀ (fr':zi) (e:zaQ) (vs:List zd) (e':zmg) (tmps':Array Value) (ds':List Deferred) (w':World) (G':Emb) (todo:List Item),aresults T F.results.toList fr' h'=Ob vs ->
      Post base G h w [] F.ntmps e fr' h' e' tmps' ds' w' G'->Steps P (lone (fat f .normal Oe (args'++Array.replicate (F.ntmps-args'.size) undef) [] [.code c]) cs w) (lone { fat f .normal Oe tmps' ds' todo with mode:=.returning } cs w') ->
      ∃ e w2 fr2,zwG base G h w (.ret (packed vs)) h' e w2∧Comes P (lone (fat f .normal Oe (args'++Array.replicate (F.ntmps-args'.size) undef) [] [.code c]) cs w) (lone fr2 cs w2) e∧fr2.fn=f∧fr2.leaving P w2 e:=by
    intro fr' e vs e' tmps' ds' w' G' todo hres post hsteps;obtain ⟨w2,u1,u2,u3,u4,u5,u6⟩:=zkd (P:=P) (fr:={ fat f .normal Oe tmps' ds' todo with mode:=.returning }) (.inl rfl) cs ds' w' post.dsok post.dsnd;have hr2:zeV base G' h' w2:=post.heap.unmark post.dsok u2 u6;obtain ⟨vs',hv1,hv2⟩:=zlB (P:=P) ok hr2 post.frame F.results.toList vs hres;have hrun2:(results F tmps').run P w2=.ok (if h:vs'.toArray.size=1 then vs'.toArray[0] else .tuple vs'.toArray) w2:=by
      rw [zqv,Array.mapM_eq_mapM_toList];simp only [Sem.run_bind,Sem.run_map,hv1,Result.andThen_ok,Sem.run_pure]
    obtain ⟨news,en,hn⟩:=post.dsnew;refine ⟨.returned _,w2,{ fat f .normal Oe tmps' [] todo with mode:=.returning },⟨G',hr2, ?_,.inl ⟨_,_,rfl,rfl,zqw hv2⟩⟩,hsteps.trans u1,rfl,⟨rfl,rfl,rfl,F,hPF,hrun2⟩⟩;refine ⟨post.trans.ext,by rw [u2]; exact post.trans.size,fun k hk hb=>?_,post.trans.own,u3.trans post.trans.os,u4.trans post.trans.tape,u5.trans post.trans.output,post.trans.loops,post.trans.next,post.trans.dom,post.trans.junk⟩;rw [u6 k ?_]
    · exact post.trans.frame k hk hb
    · intro d hd e;have hd':d∈news:=by rw [en] at hd; simpa using hd
      have:=hn d hd' k e;omega
  cases hrn:run c (zcK 0 args .leaf) h with
  | none=>rw [hrn] at hl; cases hl
  | some out=>
    obtain ⟨e,fr',h2⟩:=out;rw [hrn] at hl;obtain ⟨e',tmps',ds',w',G',post,hnds,hland⟩:=hrun _ _ _ _ _ _ hrn F.ntmps hcok G w [] Oe _ hpre f .normal [] cs _ (.inl rfl);cases e with
    | normal=>
      simp only at hl;cases hres:aresults T F.results.toList fr' h2 with
      | none=>rw [hres] at hl; cases hl
      | some vs=>
        rw [hres] at hl;cases hl;have hex:=post.exit;cases e'<;>try exact hex.elim
        have hst:step P (lone (fat f .normal Oe tmps' ds' []) cs w')=.next (lone { fat f .normal Oe tmps' ds' [] with mode:=.returning } cs w'):=step_lone_go (by simp [stepG,stepG.exec,fat]);exact finish fr' .normal vs .normal tmps' ds' w' G' [] hres post (Steps.trans hland (.one hst))
    | ret=>
      simp only at hl;cases hres:aresults T F.results.toList fr' h2 with
      | none=>rw [hres] at hl; cases hl
      | some vs=>
        rw [hres] at hl;cases hl;have hex:=post.exit;cases e'<;>try exact hex.elim
        obtain ⟨k2,hk2⟩:=hland;have hst:step P (lone (fat f .normal Oe tmps' ds' (.code .ret::k2)) cs w')=.next (lone { fat f .normal Oe tmps' ds' (.code .ret::k2) with mode:=.returning } cs w'):=step_lone_go (by simp [stepG,stepG.exec,fat]);exact finish fr' .ret vs .ret tmps' ds' w' G' _ hres post (Steps.trans hk2 (.one hst))
    | pan v=>
      simp only at hl;cases hl;have hex:=post.exit;cases e'<;>try exact hex.elim
      rename_i v';obtain ⟨k2,_,hk2⟩:=hland;obtain ⟨w2,u1,u2,u3,u4,u5,u6⟩:=zkd (P:=P) (fr:={ fat f .normal Oe tmps' ds' k2 with mode:=.panicking [{ v:=v',recovered:=Oc }] }) (.inr ⟨_,rfl⟩) cs ds' w' post.dsok post.dsnd;obtain ⟨news,en,hn⟩:=post.dsnew;refine ⟨.panicked [{ v:=v',recovered:=Oc }],w2,{ fat f .normal Oe tmps' [] k2 with mode:=.panicking [{ v:=v',recovered:=Oc }] },⟨G',post.heap.unmark post.dsok u2 u6, ?_,.inr ⟨v,v',rfl,rfl,hex⟩⟩,hk2.trans u1,rfl,⟨rfl,rfl,F,hPF⟩⟩;refine ⟨post.trans.ext,by rw [u2]; exact post.trans.size,fun k hk hb=>?_,post.trans.own,u3.trans post.trans.os,u4.trans post.trans.tape,u5.trans post.trans.output,post.trans.loops,post.trans.next,post.trans.dom,post.trans.junk⟩;rw [u6 k ?_]
      · exact post.trans.frame k hk hb
      · intro d hd e;have hd':d∈news:=by rw [en] at hd; simpa using hd
        have:=hn d hd' k e;omega
    | exit id=>simp at hl
    | goto l=>simp at hl
end
section
variable {T:Tab} {P:Program} (ok:T.Ok P) {base:Nat}
theorem zji {g : FuncId} {F : Func} (hF : P.funcs[g]? = some F) (hn : (F.name == "runtime.NumGoroutine") = false) (hb : F.body.isSome = true) (args : Array Value) (w : World) :
    (callFunc g args).run P w=.ok (.enter g args) w:=by
  have hb':F.body.isNone=Oc:=by
    cases h:F.body with
    | none=>rw [h] at hb; cases hb
    | some _=>rfl
  simp only [callFunc,Sem.run_bind,run_program,Result.andThen_ok,hF,hn,Bool.false_eq_true,if_false,hb',Sem.run_pure]
include ok in
theorem zrB {run:Runner} (hrun:RunOk P base run) {g:FuncId} {args:List zd} {h:za} {r:zj2} {h':za} (hl:zeE T run g args h=Ob (r,h')) {G:Emb} {w:World} {args':Array Value}
 (ha:zcL G args args'.toList) (hr:zeV base G h w) (c:Frame) (cs:List Frame) :
 ∃ r' w' G',zne G' r r'/\zeV base G' h' w'/\Trans G h w G' h' w'/\Steps P (lone (Frame.enter P g args' .normal) (c::cs) w) (lone (r'.frame c) cs w'):=by
 obtain ⟨_,hcalls⟩:=zwH ok hrun hl ha hr;obtain ⟨e,w',fr,⟨G',h1,h2,h3⟩,hcomes,hfn,hleave⟩:=hcalls (c::cs);rcases h3 with ⟨v,v',rfl,rfl,hv⟩ | ⟨v,v',rfl,rfl,hv⟩
 . exact ⟨.ret v',w',G',hv,h1,h2,Steps.trans hcomes (.one (step_leave_returned hleave))⟩
 . exact ⟨.pan v',w',G',hv,h1,h2,Steps.trans hcomes (.one (step_leave_panicked hleave))⟩
theorem ziM {G:Emb} {h:za} {w:World} (hr:zeV base G h w) {b:Nat} {l:Loc} {L:zh7} (hb:G b=Ob l) (hg:h.get b=Ob (.loop L)):base<=l.c/\∃ L',w.heap[l.c]?=Ob (.loop L')/\zgu G L L':=by
 have hblk:=hr.blk b l hb;rw [hg] at hblk;exact hblk
theorem zmh {G:Emb} {h:za} {w:World} (hr:zeV base G h w) {b:Nat} {l:Loc} {L0 L:zh7} {L':Loop} (hb:G b=Ob l) (hg:h.get b=Ob (.loop L0)) (hs:zj5 L0 L) (hL:zgu G L L') :
 zeV base G (h.set b (.loop L)) { w with heap:=w.heap.setIfInBounds l.c (.loop L') }/\Trans G h w G (h.set b (.loop L)) { w with heap:=w.heap.setIfInBounds l.c (.loop L') }:=by
 have hlt:=hr.clt b l hb;obtain ⟨hbase,_⟩:=ziM hr hb hg;have hh:=zgW hr.toH0 hb (by unfold Owns; rw [hg]; trivial) (.loop L) { w with heap:=w.heap.setIfInBounds l.c (.loop L') } Ol (λk hk=>by simp [Array.getElem?_setIfInBounds,Ne.symm hk]) rfl rfl rfl
  ⟨hbase,L',by simp [Array.getElem?_setIfInBounds,hlt],hL⟩ (λL1 h1=>⟨L,rfl,by rw [hg] at h1; cases h1; exact hs⟩)
 exact ⟨hh.1.toH hh.2 hr,hh.2⟩
theorem zic {G:Emb}:∀ (ps:List Nat) (vs:List zd) (vs':List Value) (fr:zi) (tmps:Array Value),zcL G vs vs'->(∀ p∈ps,p<tmps.size)->zj4 G fr tmps ->
    zj4 G (zdt ps vs fr) ((ps.zip vs').foldl (λtmps (x:Nat×Value)=>tmps.setIfInBounds x.1 x.2) tmps)/\((ps.zip vs').foldl (λtmps (x:Nat×Value)=>tmps.setIfInBounds x.1 x.2) tmps).size=tmps.size
  | [],vs,vs',fr,tmps,_,_,hf=>by cases vs<;>cases vs'<;>exact ⟨hf,rfl⟩
  | p::ps,[],vs',fr,tmps,hv,_,hf=>by rw [hv.nil_inv]; exact ⟨hf,rfl⟩
  | p::ps,v::vs,vs',fr,tmps,hv,hp,hf=>by
    obtain ⟨v',us',rfl,h1,h2⟩:=hv.cons_inv;have:=zic ps vs us' (Tr.set fr p v) (tmps.setIfInBounds p v') h2 (λq hq=>by simpa using hp q (List.mem_cons_of_mem _ hq)) (hf.put (hp p (List.mem_cons_self ..)) h1);simp only [zdt,List.zip_cons_cons,List.foldl_cons];exact ⟨this.1,by rw [this.2]; simp⟩
theorem zfz {w:World} {l:Nat} {L:Loop} (hg:w.heap[l]?=Ob (.loop L)):(Instr.getLoop l).run P w=.ok L w:=by
 simp [Instr.getLoop,getObj,Sem.run,hg]
theorem zhO {w:World} {l:Nat} {L L2:Loop} (hg:w.heap[l]?=Ob (.loop L)):(setObj l (.loop L2)).run P w=.ok () { w with heap:=w.heap.setIfInBounds l (.loop L2) }:=by
 simp [setObj,Sem.run,hg]
theorem znh {w:World} {l:Nat} {L:Loop} (hg:w.heap[l]?=Ob (.loop L)) (jump:Option Code) :
 (Instr.endRound l jump).run P w=.ok (.bool jump.isNone) { w with heap:=w.heap.setIfInBounds l (.loop { L with state:=if jump.isNone then .ready else .done,pending:=jump }) }:=by
 simp only [Instr.endRound,Sem.run_bind,zfz hg,Result.andThen_ok,zhO hg,Sem.run_pure]
theorem zua {fn:FuncId} {l:Nat} {tmps:Array Value} {todo:List Item} {c:Frame} {cs:List Frame} {w:World} {L:Loop} {jump:Option Code} (hg:w.heap[l]?=Ob (.loop L))
 (hj:(todo=[]/\jump=Oe)\/(∃ k,todo=.code .ret::k/\jump=Ob .ret)\/(∃ id k,todo=.code (.exit id)::k/\exitTo id k=Oe/\jump=Ob (.exit id))) :
 step P (lone (fat fn .normal (Ob l) tmps [] todo) (c::cs) w)=.next (lone (c.finish (.bool jump.isNone)) cs { w with heap:=w.heap.setIfInBounds l (.loop { L with state:=if jump.isNone then .ready else .done,pending:=jump }) }):=by
 have hend:=znh (P:=P) hg jump;refine step_lone_go ?_;rcases hj with ⟨rfl,rfl⟩ | ⟨k,rfl,rfl⟩ | ⟨id,k,rfl,he,rfl⟩
 . simp [stepG,stepG.exec,fat,Sem.runT_eq,hend,doReturn]
 . simp [stepG,stepG.exec,fat,Sem.runT_eq,hend,doReturn]
 . simp [stepG,stepG.exec,fat,Sem.runT_eq,hend,doReturn,he]
theorem zrC {run:Runner} (hrun:RunOk P base run) {l:Nat} {args:List zd} {h:za} {r:zj2} {h':za} (hl:around run l args h=Ob (r,h')) {G:Emb} {w:World} {args':Array Value} {loc:Loc}
    (hb:G l=Ob loc) (ha:zcL G args args'.toList) (hr:zeV base G h w) :
    ∃ nx s,(Instr.yield loc.c args').run P w=.ok nx w/\ziL P nx=Ob s/\∀ (c:Frame) (cs:List Frame),
      ∃ r' w' G',zne G' r r'/\zeV base G' h' w'/\Trans G h w G' h' w'/\Steps P (lone s (c::cs) w) (lone (r'.frame c) cs w'):=by
  unfold around at hl;split at hl
  case h_2=>cases hl
  rename_i L hg;split at hl
  case isFalse=>cases hl
  rename_i hcond;obtain ⟨hstate,hargs⟩:=hcond;obtain ⟨hbase,L',hg',hL⟩:=ziM hr hb hg;have hasz:args'.size=L'.params.size:=by
    have h1:=ha.1;have h2:=congrArg List.length hL.params;simp at h1 h2;omega
  let tm:=(L'.params.zip args').foldl (λtmps (x:Nat×Value)=>tmps.setIfInBounds x.1 x.2) L'.tmps
  have htm:tm=(L.params.zip args'.toList).foldl (λtmps (x:Nat×Value)=>tmps.setIfInBounds x.1 x.2) L'.tmps:=by
    show (L'.params.zip args').foldl _ _=_;rw [← hL.params,← Array.foldl_toList,Array.toList_zip]
  obtain ⟨hfr,hsz⟩:=zic L.params args args'.toList L.fr L'.tmps ha hL.okP hL.frame;rw [← htm] at hfr hsz;refine ⟨.round loc.c L'.fn tm L'.assign L'.body,Frame.round loc.c L'.fn tm L'.assign L'.body .normal, ?_,rfl,λc cs=>?_⟩
  · simp only [Instr.yield,Sem.run_bind,zfz hg',Result.andThen_ok,hasz,ne_eq,not_true_eq_false,if_false,Sem.run_pure];rfl
  have hstart:Frame.round loc.c L'.fn tm L'.assign L'.body .normal=fat L'.fn .normal (Ob loc.c) tm [] [.code L.assign,.beginRound,.code L.body]:=by
    simp [Frame.round,fat,hL.assign,hL.body]
  rw [hstart];have hrnd:zrz G h (Ob loc.c):=λl' e=>by cases e; exact ⟨l,loc,L,hb,rfl,hg⟩
  have hpre:Pre base G h w [] (Ob loc.c) L'.tmps.size (zdt L.params args L.fr) tm:=⟨hsz,hfr,hr,(λd hd=>by cases hd),.nil,hrnd,.inr rfl⟩;cases h1:run L.assign (zdt L.params args L.fr) h with
  | none=>rw [h1] at hl; simp at hl
  | some out1=>
    obtain ⟨e1,fr1,ha1⟩:=out1;rw [h1] at hl;cases e1<;>simp only at hl<;>(try (cases hl; done));obtain ⟨e',tmps1,ds1,w1,G1,post1,hds1,hland1⟩:=hrun _ _ _ _ _ _ h1 _ hL.okA G w [] (Ob loc.c) tm hpre L'.fn .normal [.beginRound,.code L.body] (c::cs) _ (.inl rfl);have hex:=post1.exit;cases e'<;>try exact hex.elim
    have hds1':ds1=[]:=hds1.resolve_left Ol;subst hds1'
    -- the loop is busy
    split at hl
    case h_2=>cases hl
    rename_i L1 hg1;split at hl
    case isFalse=>cases hl
    rename_i hready;have hb1:=post1.trans.ext _ _ hb;obtain ⟨_,hga,hs1⟩:=post1.trans.loops l loc L hb hg;rw [hg1] at hga; cases hga;obtain ⟨hbase1,L1',hg1',hL1⟩:=ziM post1.heap hb1 hg1;have hLb:zgu G1 { L with state:=.busy } { L1' with state:=.busy }:=
      ⟨rfl,λq=>absurd rfl q,by rw [← hs1.params]; exact hL1.params,by rw [← hs1.assign]; exact hL1.assign,by rw [← hs1.body]; exact hL1.body,by rw [← hs1.fr]; exact hL1.frame,by rw [← hs1.params]; exact hL1.okP,by rw [← hs1.assign]; exact hL1.okA,by rw [← hs1.body]; exact hL1.okB⟩
    have hs1':zj5 L1 { L with state:=.busy }:=⟨hs1.fr.symm,hs1.params.symm,hs1.assign.symm,hs1.body.symm⟩;obtain ⟨hr2,ht2⟩:=zmh post1.heap hb1 hg1 hs1' hLb;have hbegin:step P (lone (fat L'.fn .normal (Ob loc.c) tmps1 [] [.beginRound,.code L.body]) (c::cs) w1) =
        .next (lone (fat L'.fn .normal (Ob loc.c) tmps1 [] [.code L.body]) (c::cs) { w1 with heap:=w1.heap.setIfInBounds loc.c (.loop { L1' with state:=.busy }) }):=by
      have hst1:L1'.state=.ready:=by rw [hL1.state]; exact hready
      have hbr:(Instr.beginRound loc.c).run P w1=.ok () { w1 with heap:=w1.heap.setIfInBounds loc.c (.loop { L1' with state:=.busy }) }:=by
        simp only [Instr.beginRound,Sem.run_bind,zfz hg1',Result.andThen_ok,zhO hg1',hst1,Sem.run_pure]
      refine step_lone_go ?_;simp [stepG,stepG.exec,stepG.apply,fat,Sem.runT_eq,hbr,Frame.finish]
    have hpre2:Pre base G1 (ha1.set l (.loop { L with state:=.busy })) { w1 with heap:=w1.heap.setIfInBounds loc.c (.loop { L1' with state:=.busy }) } [] (Ob loc.c) L'.tmps.size fr1 tmps1:=
      ⟨post1.size,post1.frame,hr2,(λd hd=>by cases hd),.nil,(hrnd.trans post1.trans).trans ht2,.inr rfl⟩
    cases h2:run L.body fr1 (ha1.set l (.loop { L with state:=.busy })) with
    | none=>rw [h2] at hl; simp at hl
    | some out2=>
      obtain ⟨e2,fr2,ha2⟩:=out2;rw [h2] at hl;obtain ⟨e'',tmps2,ds2,w2,G2,post2,hds2,hland2⟩:=hrun _ _ _ _ _ _ h2 _ hL.okB G1 _ [] (Ob loc.c) tmps1 hpre2 L'.fn .normal [] (c::cs) _ (.inl rfl);have hds2':ds2=[]:=hds2.resolve_left Ol;subst hds2';have hex2:=post2.exit;have hb2:=post2.trans.ext _ _ hb1;obtain ⟨L2,hg2,hs2⟩:=post2.trans.loops l loc { L with state:=.busy } hb1 (by rw [za.get_set,if_pos rfl]);obtain ⟨hbase2,L2',hg2',hL2⟩:=ziM post2.heap hb2 hg2;have tr12:Trans G h w G2 ha2 w2:=(post1.trans.trans ht2).trans post2.trans;have sall:Steps P (lone (fat L'.fn .normal (Ob loc.c) tm [] [.code L.assign,.beginRound,.code L.body]) (c::cs) w) (lone (fat L'.fn .normal (Ob loc.c) tmps1 [] [.code L.body]) (c::cs) { w1 with heap:=w1.heap.setIfInBounds loc.c (.loop { L1' with state:=.busy }) }):=
        Steps.trans hland1 (.one hbegin)
      -- the end of a round
      have fin:∀ (jump:Option Code) (todo:List Item),((todo=[]/\jump=Oe)\/(∃ k,todo=.code .ret::k/\jump=Ob .ret)\/(∃ id k,todo=.code (.exit id)::k/\exitTo id k=Oe/\jump=Ob (.exit id))) ->
          Steps P (lone (fat L'.fn .normal (Ob loc.c) tmps1 [] [.code L.body]) (c::cs) { w1 with heap:=w1.heap.setIfInBounds loc.c (.loop { L1' with state:=.busy }) }) (lone (fat L'.fn .normal (Ob loc.c) tmps2 [] todo) (c::cs) w2) ->
          ∃ r' w' G',zne G' (.ret (.bool jump.isNone)) r'/\zeV base G' (ha2.set l (.loop { L with state:=if jump.isNone then .ready else .done,pending:=jump })) w' /\
            Trans G h w G' (ha2.set l (.loop { L with state:=if jump.isNone then .ready else .done,pending:=jump })) w' /\
            Steps P (lone (fat L'.fn .normal (Ob loc.c) tm [] [.code L.assign,.beginRound,.code L.body]) (c::cs) w) (lone (r'.frame c) cs w'):=by
        intro jump todo hj hst;have hLe:zgu G2 { L with state:=if jump.isNone then .ready else .done,pending:=jump } { L2' with state:=if jump.isNone then .ready else .done,pending:=jump }:=
          ⟨rfl,λ_=>rfl,by rw [show L.params=L2.params from hs2.params.symm]; exact hL2.params,by rw [show L.assign=L2.assign from hs2.assign.symm]; exact hL2.assign,by rw [show L.body=L2.body from hs2.body.symm]; exact hL2.body,
            by rw [show L.fr=L2.fr from hs2.fr.symm]; exact hL2.frame,by rw [show L.params=L2.params from hs2.params.symm]; exact hL2.okP,by rw [show L.assign=L2.assign from hs2.assign.symm]; exact hL2.okA,by rw [show L.body=L2.body from hs2.body.symm]; exact hL2.okB⟩
        obtain ⟨hr3,ht3⟩:=zmh post2.heap hb2 hg2 (L:={ L with state:=if jump.isNone then .ready else .done,pending:=jump }) ⟨hs2.fr.symm,hs2.params.symm,hs2.assign.symm,hs2.body.symm⟩ hLe;exact ⟨.ret (.bool jump.isNone),_,G2,.bool _,hr3,tr12.trans ht3,(sall.trans hst).trans (.one (zua hg2' hj))⟩
      cases e2<;>simp only at hl<;>(try (cases hl; done))
      · cases hl;cases e''<;>try exact hex2.elim
        exact fin Oe [] (.inl ⟨rfl,rfl⟩) hland2
      · rename_i id;cases hl;cases e''<;>try exact hex2.elim
        rename_i id';have:id=id':=hex2;subst this;obtain ⟨k2,hk,hst⟩:=hland2;exact fin (Ob (.exit id)) _ (.inr (.inr ⟨id,k2,rfl,by rw [hk]; rfl,rfl⟩)) hst
      · cases hl;cases e''<;>try exact hex2.elim
        obtain ⟨k2,hst⟩:=hland2;exact fin (Ob .ret) _ (.inr (.inl ⟨k2,rfl,rfl⟩)) hst
      · rename_i v;cases hl;cases e''<;>try exact hex2.elim
        rename_i v';obtain ⟨k2,hk,hst⟩:=hland2;refine ⟨.pan v',w2,G2,hex2,post2.heap,tr12,(sall.trans hst).trans (.one (step_lone_go ?_))⟩;have hcat:Frame.catches P { fat L'.fn .normal (Ob loc.c) tmps2 [] k2 with mode:=.panicking [{ v:=v',recovered:=Oc }] }=Oc:=by
          unfold Frame.catches;cases k2 with
          | nil=>simp [fat]
          | cons x k2=>cases x<;>first | (simp [notCall] at hk; done) | simp [fat]
        simp only [fat] at hcat;simp [stepG,fat,unwind,hcat,ztN.frame]
include ok in
theorem zub {run:Runner} (hrun:RunOk P base run):zlA P base (acall T run):=by
 intro f args h r h' hl G w f' args' hf ha hr;unfold acall at hl;split at hl
 . rename_i g first captured
   cases hf with
   | func _ fn' _ _ f2 c2 hfn hfl hcl hfs hcs=>
   rcases hfn with ⟨_,_,e,_⟩ | ⟨g',e,rfl⟩
   . cases e
   cases e;have h1:zcL G first f2.toList:=⟨by simpa using hfl,λi v v' a b=>hfs i v v' a (by simpa using b)⟩
   have h2:zcL G captured c2.toList:=⟨by simpa using hcl,λi v v' a b=>hcs i v v' a (by simpa using b)⟩;have h3:zcL G (first++args++captured) ((f2++args')++c2).toList:=by
    simp only [Array.toList_append];exact (h1.append ha).append h2
   split at hl
   . rename_i p hp;cases hv:p (first++args++captured) with
     | none=>rw [hv] at hl; cases hl
     | some v=>
     rw [hv] at hl;cases hl;obtain ⟨⟨F,hF,hn,hb⟩,hcalls⟩:=ok.consts g p hp;refine ⟨.enter g ((f2++args')++c2),Frame.enter P g ((f2++args')++c2) .normal, ?_,rfl,λc cs=>?_⟩
     . simp only [Deferred.ofValue,Sem.run_bind,Sem.run_pure,Result.andThen_ok,invoke];exact zji hF hn hb _ w
     . obtain ⟨e,w',fr,⟨v',rfl,k1,k2,k3,k4,k5,k6⟩,hcomes,hfn,hleave⟩:=hcalls _ v hv G _ w h3 (c::cs);refine ⟨.ret v',w',G,k1, ?_,.same k2 (λk hk _=>k3 k hk) k4 k5 k6,Steps.trans hcomes (.one (step_leave_returned hleave))⟩;refine ⟨⟨λb l hb=>Nat.lt_of_lt_of_le (hr.clt b l hb) k2,λb l hb=>(hr.blk b l hb).mono (.refl _) (k3 _ (hr.clt b l hb)),hr.inj,Nat.le_trans hr.base k2⟩,hr.lt⟩
   obtain ⟨⟨F,hF,hn,hb⟩,_⟩:=zwH ok hrun hl h3 hr;refine ⟨.enter g ((f2++args')++c2),Frame.enter P g ((f2++args')++c2) .normal, ?_,rfl,zrB ok hrun hl h3 hr⟩;simp only [Deferred.ofValue,Sem.run_bind,Sem.run_pure,Result.andThen_ok,invoke];exact zji hF hn hb _ w
 . rename_i l first captured
   cases hf with
   | func _ fn' _ _ f2 c2 hfn hfl hcl hfs hcs=>
   rcases hfn with ⟨l1,l2,e,rfl,loc,hb,hc⟩ | ⟨g',e,_⟩
   case inr=>cases e
   cases e;subst hc;have h1:zcL G first f2.toList:=⟨by simpa using hfl,λi v v' a b=>hfs i v v' a (by simpa using b)⟩
   have h3:zcL G (first++args) (f2++args').toList:=by
    simp only [Array.toList_append];exact h1.append ha
   obtain ⟨nx,s,q1,q2,q3⟩:=zrC hrun hl hb h3 hr;refine ⟨nx,s, ?_,q2,q3⟩;simp only [Deferred.ofValue,Sem.run_bind,Sem.run_pure,Result.andThen_ok,invoke];exact q1
 . cases hl
end
end Go.Ai