/- Written by program: walks through functions. -/
import Derived.Test.YtnngmijajnldlaaGreatX11
set_option linter.unusedSimpArgs false
set_option linter.unusedVariables false
set_option linter.unusedSectionVars false
open Option renaming some→Ob
namespace Go.Ai.TabYtnngmijajnldlaaGreat
open Go Go.Ai Go.Ai.Sx Go.Proofs
attribute [local irreducible] zm
set_option maxRecDepth 100000
set_option maxHeartbeats 4000000
theorem zbk {c f e d out} (ho:zah c f e d=Ob out) (a:zd):zfL ktab 125 [.raw a,.val (zh .i64) f,.val (zh .i64) e,.val (rFn ktab (zf×zf) Int (λx=>[.val zg x.1,.val zg x.2]) (λy=>[.val (zh .i64) y])) d] [(a,.row zg c)] [] (λγ=>[(a,.row zg out)]):=by
 refine zco (F:=Tryz.f125) Om Om Om (λC=>?_);delta zah at ho;obtain ⟨ta,ha,ho⟩:=bnd ho;refine glp ha [0,1,2,3] [] [0] (λs g=>([(8,vI s.1)],[(a,.row zg s.2)])) (λb=>(.exit 0,λg=>([],[(a,.row zg b)]))) [] (λsa ga _ ho=>?_) λgb=>?_
 . refine gct ho (λhc ho=>?_) λhc ho=>?_
   . obtain ⟨tb,hd,ho⟩:=bnd ho;refine glp hd [0,1,2,3,8] [] [0] (λs g=>([(9,vI s.1)],[(a,.row zg s.2)])) (λb=>(.exit 2,λg=>([],[(a,.row zg b)]))) [] (λsb gc _ ho=>?_) λgd=>?_
     . refine run 2 ?_;refine zaK [8,13] Z ?_;refine wbr ho (λhe ho=>?_) λhe ho=>?_
       . obtain ⟨xa,hh,xb,hi,ya,hf,ho⟩:=zok ho;refine gcv hf ?_;refine gct ho (λhg ho=>?_) λhg ho=>?_
         . refine run 3 ?_;refine zaK [9,13] Z ?_;obtain ⟨xd,hj,xe,hk,ho⟩:=zff ho;refine run 14 ?_;obtain ⟨xf,hl,xg,hm,ho⟩:=zff ho;exact lv [] [0] ho
         . exact lv [] [0] ho
       . refine gk ?_;exact lv [] [0] ho
     . exact lv [] [0] ho
   . exact lv [] [0] ho
 . cases ho; exact id (zP [0] [] (.inl rfl) .n rfl Oa)
theorem zaT {a h f e c out} (ho:zaf a h f e c=Ob out) (d:zd):zfL ktab 149 [.raw d,.val (zh .i64) h,.val (zh .i64) f,.val (zh .i64) e,.val (rFn ktab (zf×zf) Int (λx=>[.val zg x.1,.val zg x.2]) (λy=>[.val (zh .i64) y])) c] [(d,.row zg a)] [] (λγ=>[(d,.row zg out)]):=by
 refine zco (F:=Tryz.f149) Om Om Om (λC=>?_);delta zaf at ho;obtain ⟨ta,ha,ho⟩:=bnd ho;refine glp ha [0,1,2,3] [] [0] (λs g=>([(10,vI s.1)],[(d,.row zg s.2)])) (λb=>(.exit 0,λg=>([],[(d,.row zg b)]))) [] (λsa ga _ ho=>?_) λgb=>?_
 . refine gct ho (λhc ho=>?_) λhc ho=>?_
   . refine run 3 ?_;refine zaK [13,19] Z ?_;obtain ⟨xa,hd,xb,he,ho⟩:=zff ho;refine run 20 ?_;obtain ⟨xd,hf,xe,hg,ho⟩:=zff ho;exact lv [] [0] ho
   . exact lv [] [0] ho
 . cases ho; exact id (zP [0] [] (.inl rfl) .n rfl Oa)
theorem zbZ {c h f e d out} (ho:zaM c h f e d=Ob out) (a:zd):zfL ktab 137 [.raw a,.val (zh .i64) h,.val (zh .i64) f,.val (zh .i64) e,.val (rFn ktab (zf×zf) Int (λx=>[.val zg x.1,.val zg x.2]) (λy=>[.val (zh .i64) y])) d] [(a,.row zg c)] [] (λγ=>[(a,.row zg out)]):=by
 refine zco (F:=Tryz.f137) Om Om Om (λC=>?_);delta zaM at ho;obtain ⟨ta,ha,ho⟩:=bnd ho;refine glp ha [0,2,4] [] [0] (λs g=>([(10,vI s.1),(11,vI s.2.1)],[(a,.row zg s.2.2)])) (λb=>(.exit 0,λg=>([(10,vI b.1)],[(a,.row zg b.2)]))) [] (λsa ga _ ho=>?_) λgb=>?_
 . refine gct ho (λhc ho=>?_) λhc ho=>?_
   . refine gct ho (λhd ho=>?_) λhd ho=>?_
     . obtain ⟨ya,he,ho⟩:=bnd ho;refine gcm [0] [] (zaT he a) ?_;intro gc;show zm ..;exact lv [] [0] ho
     . obtain ⟨yb,hf,ho⟩:=bnd ho;refine gcm [0] [] (zaT hf a) ?_;intro gd;show zm ..;exact lv [] [0] ho
   . exact lv [] [0] ho
 . obtain ⟨yc,hg,ho⟩:=bnd ho;refine gcm [0] [] (zaT hg a) ?_;intro ge;show zm ..;cases ho; exact zdD (zP [0] [] (.inl rfl) .n rfl Oa)
theorem zcZ {rec:List zf->Int->Int->Int->((zf×zf)->Option Int)->Option (List zf)} (hrec:∀ {c h f e d} {out:(List zf)},rec c h f e d=Ob out->∀ (a:zd),zfL ktab 126 [.raw a,.val (zh .i64) h,.val (zh .i64) f,.val (zh .i64) e,.val (rFn ktab (zf×zf) Int (λx=>[.val zg x.1,.val zg x.2]) (λy=>[.val (zh .i64) y])) d] [(a,.row zg c)] [] (λγ=>[(a,.row zg out)])) {c:(List zf)} {h:Int} {f:Int} {e:Int} {d:((zf×zf)->Option Int)} {out:(List zf)} (ho:zaO rec c h f e d=Ob out) (a:zd):zfL ktab 126 [.raw a,.val (zh .i64) h,.val (zh .i64) f,.val (zh .i64) e,.val (rFn ktab (zf×zf) Int (λx=>[.val zg x.1,.val zg x.2]) (λy=>[.val (zh .i64) y])) d] [(a,.row zg c)] [] (λγ=>[(a,.row zg out)]):=by
 refine zco (F:=Tryz.f126) Om Om Om (λC=>?_);delta zaO at ho;refine gct ho (λhq1 ho=>?_) λhq1 ho=>?_
 . obtain ⟨ta,ha,ho⟩:=bnd ho;refine glp ha [0,1,4] [0] [0] (λs g=>([(10,vI s.1),(11,vI s.2)],[])) (λb=>(.exit 0,λg=>([(10,vI b)],[]))) [] (λsa ga _ ho=>?_) λgb=>?_
   . refine gct ho (λhc ho=>?_) λhc ho=>?_
     . obtain ⟨xa,haE,ho⟩:=bnd ho;refine run 13 ?_;refine zaK [4,8] Z ?_;obtain ⟨xb,haF,xd,haG,ya,hd,ho⟩:=zok ho;refine gcv hd ?_;refine gct ho (λhe ho=>?_) λhe ho=>?_
       . exact lv [] [0] ho
       . exact lv [] [0] ho
     . exact lv [] [0] ho
   . obtain ⟨tb,hf,ho⟩:=bnd ho;refine glp hf [0,10] [] [0] (λs g=>([(13,vI s.1)],[(a,.row zg s.2)])) (λb=>(.exit 2,λg=>([],[(a,.row zg b)]))) [] (λsb gc _ ho=>?_) λgd=>?_
     . refine gct ho (λhg ho=>?_) λhg ho=>?_
       . refine run 3 ?_;refine zaK [9,13] Z ?_;obtain ⟨xe,haH,xf,haI,ho⟩:=zff ho;refine run 14 ?_;obtain ⟨xg,haJ,xh,haK,ho⟩:=zff ho;exact lv [] [0] ho
       . exact lv [] [0] ho
     . cases ho; exact zdR (zP [0] [] (.inr rfl) .n rfl Oa)
 . refine gct ho (λhh ho=>?_) λhh ho=>?_
   . obtain ⟨tc,hi,ho⟩:=bnd ho;refine glp hi [0,2,4] [0] [0] (λs g=>([(14,vI s.1),(15,vI s.2)],[])) (λb=>(.exit 4,λg=>([(14,vI b)],[]))) [] (λsc ge _ ho=>?_) λgf=>?_
     . refine gct ho (λhj ho=>?_) λhj ho=>?_
       . obtain ⟨xi,haL,ho⟩:=bnd ho;refine run 13 ?_;refine zaK [4,8] Z ?_;obtain ⟨xj,haM,xk,haN,yb,hk,ho⟩:=zok ho;refine gcv hk ?_;refine gct ho (λhl ho=>?_) λhl ho=>?_
         . exact lv [] [0] ho
         . exact lv [] [0] ho
       . exact lv [] [0] ho
     . obtain ⟨td,hm,ho⟩:=bnd ho;refine glp hm [0,14] [] [0] (λs g=>([(17,vI s.1)],[(a,.row zg s.2)])) (λb=>(.exit 6,λg=>([],[(a,.row zg b)]))) [] (λsd gg _ ho=>?_) λgh=>?_
       . refine gct ho (λhn ho=>?_) λhn ho=>?_
         . refine run 3 ?_;refine zaK [9,13] Z ?_;obtain ⟨xl,haO,xm,haP,ho⟩:=zff ho;refine run 14 ?_;obtain ⟨xn,haQ,xo,haR,ho⟩:=zff ho;exact lv [] [0] ho
         . exact lv [] [0] ho
       . cases ho; exact zdR (zP [0] [] (.inr rfl) .n rfl Oa)
   . obtain ⟨xp,haS,ho⟩:=bnd ho;refine gct ho (λhp ho=>?_) λhp ho=>?_
     . obtain ⟨te,hr,ho⟩:=bnd ho;refine glp hr [0,1,2,3,4,18,19,22] [0] [0] (λs g=>([(20,vI s.1),(21,vI s.2)],[])) (λb=>(.exit 8,λg=>([(20,vI b)],[]))) [] (λse gi _ ho=>?_) λgj=>?_
       . refine gct ho (λhs ho=>?_) λhs ho=>?_
         . obtain ⟨xq,haT,ho⟩:=bnd ho;refine run 13 ?_;refine zaK [6,10] Z ?_;obtain ⟨xr,haU,xt,haV,yc,ht,ho⟩:=zok ho;refine gcv ht ?_;refine gct ho (λhu ho=>?_) λhu ho=>?_
           . exact lv [] [0] ho
           . exact lv [] [0] ho
         . exact lv [] [0] ho
       . obtain ⟨ca,hv,ho⟩:=bnd ho;refine run 9 ?_;refine gcx ca [0,1,2,3,4,18,20,24] [0] (λt=>(.normal,λ_=>([(185,vB t)],[]))) ?_ λ_=>?_
         . have ho:=hv;refine wbr ho (λhw ho=>?_) λhw ho=>?_
           . exact lv [] [0] ho
           . exact lv [] [0] ho
         . refine gct ho (λhy ho=>?_) λhy ho=>?_
           . obtain ⟨yd,hz,ho⟩:=bnd ho;refine gcm [0] [] (zbZ hz a) ?_;intro gk;show zm ..;obtain ⟨cc,hA,ho⟩:=bnd ho;refine run 3 ?_;refine gcx cc [0,1,3,4,18,20,24] [0] (λt=>(.normal,λ_=>([(199,vB t)],[]))) ?_ λ_=>?_
             . have ho:=hA;refine wbr ho (λhB ho=>?_) λhB ho=>?_
               . exact lv [] [0] ho
               . exact lv [] [0] ho
             . refine gct ho (λhC ho=>?_) λhC ho=>?_
               . obtain ⟨ye,hD,ho⟩:=bnd ho;refine gcm [0] [] (hrec hD a) ?_;intro gl;show zm ..;obtain ⟨cd,hE,ho⟩:=bnd ho;refine run 2 ?_;refine gcx cd [0,3,4,18,24] [0] (λt=>(.normal,λ_=>([(213,vB t)],[]))) ?_ λ_=>?_
                 . have ho:=hE;refine wbr ho (λhF ho=>?_) λhF ho=>?_
                   . exact lv [] [0] ho
                   . exact lv [] [0] ho
                 . refine gct ho (λhG ho=>?_) λhG ho=>?_
                   . obtain ⟨yf,hH,ho⟩:=bnd ho;refine gcm [0] [] (hrec hH a) ?_;intro gm;show zm ..;cases ho; exact zdD (zP [0] [] (.inl rfl) .n rfl Oa)
                   . cases ho; exact zdL (zP [0] [] (.inl rfl) .n rfl Oa)
               . obtain ⟨ce,hI,ho⟩:=bnd ho;refine run 2 ?_;refine gcx ce [0,3,4,18,24] [0] (λt=>(.normal,λ_=>([(213,vB t)],[]))) ?_ λ_=>?_
                 . have ho:=hI;refine wbr ho (λhJ ho=>?_) λhJ ho=>?_
                   . exact lv [] [0] ho
                   . exact lv [] [0] ho
                 . refine gct ho (λhK ho=>?_) λhK ho=>?_
                   . obtain ⟨yg,hL,ho⟩:=bnd ho;refine gcm [0] [] (hrec hL a) ?_;intro gn;show zm ..;cases ho; exact zdD (zP [0] [] (.inl rfl) .n rfl Oa)
                   . cases ho; exact zdL (zP [0] [] (.inl rfl) .n rfl Oa)
           . obtain ⟨cf,hM,ho⟩:=bnd ho;refine run 3 ?_;refine gcx cf [0,1,3,4,18,20,24] [0] (λt=>(.normal,λ_=>([(199,vB t)],[]))) ?_ λ_=>?_
             . have ho:=hM;refine wbr ho (λhN ho=>?_) λhN ho=>?_
               . exact lv [] [0] ho
               . exact lv [] [0] ho
             . refine gct ho (λhO ho=>?_) λhO ho=>?_
               . obtain ⟨yh,hP,ho⟩:=bnd ho;refine gcm [0] [] (hrec hP a) ?_;intro gp;show zm ..;obtain ⟨cg,hQ,ho⟩:=bnd ho;refine run 2 ?_;refine gcx cg [0,3,4,18,24] [0] (λt=>(.normal,λ_=>([(213,vB t)],[]))) ?_ λ_=>?_
                 . have ho:=hQ;refine wbr ho (λhR ho=>?_) λhR ho=>?_
                   . exact lv [] [0] ho
                   . exact lv [] [0] ho
                 . refine gct ho (λhS ho=>?_) λhS ho=>?_
                   . obtain ⟨yi,hT,ho⟩:=bnd ho;refine gcm [0] [] (hrec hT a) ?_;intro gq;show zm ..;cases ho; exact zdD (zP [0] [] (.inl rfl) .n rfl Oa)
                   . cases ho; exact zdL (zP [0] [] (.inl rfl) .n rfl Oa)
               . obtain ⟨ch,hU,ho⟩:=bnd ho;refine run 2 ?_;refine gcx ch [0,3,4,18,24] [0] (λt=>(.normal,λ_=>([(213,vB t)],[]))) ?_ λ_=>?_
                 . have ho:=hU;refine wbr ho (λhV ho=>?_) λhV ho=>?_
                   . exact lv [] [0] ho
                   . exact lv [] [0] ho
                 . refine gct ho (λhW ho=>?_) λhW ho=>?_
                   . obtain ⟨yj,hX,ho⟩:=bnd ho;refine gcm [0] [] (hrec hX a) ?_;intro gr;show zm ..;cases ho; exact zdD (zP [0] [] (.inl rfl) .n rfl Oa)
                   . cases ho; exact zdL (zP [0] [] (.inl rfl) .n rfl Oa)
     . obtain ⟨tf,hY,ho⟩:=bnd ho;refine glp hY [0,1,2,3,4,18,19,22] [0] [0] (λs g=>([(20,vI s.1),(21,vI s.2)],[])) (λb=>(.exit 8,λg=>([(20,vI b)],[]))) [] (λsf gs _ ho=>?_) λgt=>?_
       . refine gct ho (λhZ ho=>?_) λhZ ho=>?_
         . obtain ⟨xu,haW,ho⟩:=bnd ho;refine run 13 ?_;refine zaK [6,10] Z ?_;obtain ⟨xv,haX,xw,haY,yk,haa,ho⟩:=zok ho;refine gcv haa ?_;refine gct ho (λhab ho=>?_) λhab ho=>?_
           . exact lv [] [0] ho
           . exact lv [] [0] ho
         . exact lv [] [0] ho
       . obtain ⟨ci,hac,ho⟩:=bnd ho;refine run 9 ?_;refine gcx ci [0,1,2,3,4,18,20,24] [0] (λt=>(.normal,λ_=>([(185,vB t)],[]))) ?_ λ_=>?_
         . have ho:=hac;refine wbr ho (λhad ho=>?_) λhad ho=>?_
           . exact lv [] [0] ho
           . exact lv [] [0] ho
         . refine gct ho (λhae ho=>?_) λhae ho=>?_
           . obtain ⟨yl,haf,ho⟩:=bnd ho;refine gcm [0] [] (zbZ haf a) ?_;intro gu;show zm ..;obtain ⟨cj,hag,ho⟩:=bnd ho;refine run 3 ?_;refine gcx cj [0,1,3,4,18,20,24] [0] (λt=>(.normal,λ_=>([(199,vB t)],[]))) ?_ λ_=>?_
             . have ho:=hag;refine wbr ho (λhah ho=>?_) λhah ho=>?_
               . exact lv [] [0] ho
               . exact lv [] [0] ho
             . refine gct ho (λhai ho=>?_) λhai ho=>?_
               . obtain ⟨ym,haj,ho⟩:=bnd ho;refine gcm [0] [] (hrec haj a) ?_;intro gv;show zm ..;obtain ⟨ck,hak,ho⟩:=bnd ho;refine run 2 ?_;refine gcx ck [0,3,4,18,24] [0] (λt=>(.normal,λ_=>([(213,vB t)],[]))) ?_ λ_=>?_
                 . have ho:=hak;refine wbr ho (λhal ho=>?_) λhal ho=>?_
                   . exact lv [] [0] ho
                   . exact lv [] [0] ho
                 . refine gct ho (λham ho=>?_) λham ho=>?_
                   . obtain ⟨yn,han,ho⟩:=bnd ho;refine gcm [0] [] (hrec han a) ?_;intro gw;show zm ..;cases ho; exact zdD (zP [0] [] (.inl rfl) .n rfl Oa)
                   . cases ho; exact zdL (zP [0] [] (.inl rfl) .n rfl Oa)
               . obtain ⟨cl,hao,ho⟩:=bnd ho;refine run 2 ?_;refine gcx cl [0,3,4,18,24] [0] (λt=>(.normal,λ_=>([(213,vB t)],[]))) ?_ λ_=>?_
                 . have ho:=hao;refine wbr ho (λhap ho=>?_) λhap ho=>?_
                   . exact lv [] [0] ho
                   . exact lv [] [0] ho
                 . refine gct ho (λhaq ho=>?_) λhaq ho=>?_
                   . obtain ⟨yo,har,ho⟩:=bnd ho;refine gcm [0] [] (hrec har a) ?_;intro gx;show zm ..;cases ho; exact zdD (zP [0] [] (.inl rfl) .n rfl Oa)
                   . cases ho; exact zdL (zP [0] [] (.inl rfl) .n rfl Oa)
           . obtain ⟨cm,has,ho⟩:=bnd ho;refine run 3 ?_;refine gcx cm [0,1,3,4,18,20,24] [0] (λt=>(.normal,λ_=>([(199,vB t)],[]))) ?_ λ_=>?_
             . have ho:=has;refine wbr ho (λhat ho=>?_) λhat ho=>?_
               . exact lv [] [0] ho
               . exact lv [] [0] ho
             . refine gct ho (λhau ho=>?_) λhau ho=>?_
               . obtain ⟨yp,hav,ho⟩:=bnd ho;refine gcm [0] [] (hrec hav a) ?_;intro gy;show zm ..;obtain ⟨cn,haw,ho⟩:=bnd ho;refine run 2 ?_;refine gcx cn [0,3,4,18,24] [0] (λt=>(.normal,λ_=>([(213,vB t)],[]))) ?_ λ_=>?_
                 . have ho:=haw;refine wbr ho (λhax ho=>?_) λhax ho=>?_
                   . exact lv [] [0] ho
                   . exact lv [] [0] ho
                 . refine gct ho (λhay ho=>?_) λhay ho=>?_
                   . obtain ⟨yq,haz,ho⟩:=bnd ho;refine gcm [0] [] (hrec haz a) ?_;intro gz;show zm ..;cases ho; exact zdD (zP [0] [] (.inl rfl) .n rfl Oa)
                   . cases ho; exact zdL (zP [0] [] (.inl rfl) .n rfl Oa)
               . obtain ⟨co,haA,ho⟩:=bnd ho;refine run 2 ?_;refine gcx co [0,3,4,18,24] [0] (λt=>(.normal,λ_=>([(213,vB t)],[]))) ?_ λ_=>?_
                 . have ho:=haA;refine wbr ho (λhaB ho=>?_) λhaB ho=>?_
                   . exact lv [] [0] ho
                   . exact lv [] [0] ho
                 . refine gct ho (λhaC ho=>?_) λhaC ho=>?_
                   . obtain ⟨yr,haD,ho⟩:=bnd ho;refine gcm [0] [] (hrec haD a) ?_;intro gA;show zm ..;cases ho; exact zdD (zP [0] [] (.inl rfl) .n rfl Oa)
                   . cases ho; exact zdL (zP [0] [] (.inl rfl) .n rfl Oa)
theorem zbR {k:Nat} {a f e d b out} (ho:zaA k a f e d b=Ob out) (c:zd):zfL ktab 126 [.raw c,.val (zh .i64) f,.val (zh .i64) e,.val (zh .i64) d,.val (rFn ktab (zf×zf) Int (λx=>[.val zg x.1,.val zg x.2]) (λy=>[.val (zh .i64) y])) b] [(c,.row zg a)] [] (λγ=>[(c,.row zg out)]):=by
 induction k generalizing a f e d b out c with
 | zero=>cases ho
 | succ k ih=>exact zcZ (λh c=>ih h c) ho c
theorem zdO {c e d out} (ho:zbj c e d=Ob out) (a:zd):zfL ktab 116 [.raw a,.val (zh .i64) e,.val (rFn ktab (zf×zf) Int (λx=>[.val zg x.1,.val zg x.2]) (λy=>[.val (zh .i64) y])) d] [(a,.row zg c)] [] (λγ=>[(a,.row zg out)]):=by
 refine zco (F:=Tryz.f116) Om Om Om (λC=>?_);delta zbj at ho;obtain ⟨ta,ha,ho⟩:=bnd ho;refine glp ha [0,1,2,6] [] [0] (λs g=>([(7,vI s.1),(8,vI s.2.1)],[(a,.row zg s.2.2)])) (λb=>(.exit 0,λg=>([(7,vI b.1)],[(a,.row zg b.2)]))) [] (λs7 g8 _ ho=>?_) λga=>?_
 . refine gct ho (λhq9 ho=>?_) λhq9 ho=>?_
   . obtain ⟨ya,hc,ho⟩:=bnd ho;refine gcm [0] [] (zbk hc a) ?_;intro gb;show zm ..;exact lv [] [0] ho
   . exact lv [] [0] ho
 . obtain ⟨yb,hd,ho⟩:=bnd ho;refine gcm [0] [] (zbk hd a) ?_;intro gc;show zm ..;obtain ⟨tb,he,ho⟩:=bnd ho;refine glp he [0,1,2] [] [0] (λs g=>([(6,vI s.1)],[(a,.row zg s.2)])) (λb=>(.exit 2,λg=>([],[(a,.row zg b)]))) [] (λsa gd _ ho=>?_) λge=>?_
   . refine gct ho (λhf ho=>?_) λhf ho=>?_
     . obtain ⟨tc,hg,ho⟩:=bnd ho;refine glp hg [0,1,2,6] [] [0] (λs g=>([(7,vI s.1),(8,vI s.2.1)],[(a,.row zg s.2.2)])) (λb=>(.exit 4,λg=>([(7,vI b.1)],[(a,.row zg b.2)]))) [] (λsb gf _ ho=>?_) λgg=>?_
       . refine gct ho (λhh ho=>?_) λhh ho=>?_
         . obtain ⟨yc,hi,ho⟩:=bnd ho;refine gcm [0] [] (zbR hi a) ?_;intro gh;show zm ..;exact lv [] [0] ho
         . exact lv [] [0] ho
       . refine gct ho (λhj ho=>?_) λhj ho=>?_
         . obtain ⟨yd,hk,ho⟩:=bnd ho;refine gcm [0] [] (zbR hk a) ?_;intro gi;show zm ..;exact lv [] [0] ho
         . exact lv [] [0] ho
     . exact lv [] [0] ho
   . cases ho; exact id (zP [0] [] (.inl rfl) .n rfl Oa)
theorem zcm {c a out} (ho:zar c a=Ob out) (b:zd):zfL ktab 96 [.raw b,.val (rFn ktab (zf×zf) Int (λx=>[.val zg x.1,.val zg x.2]) (λy=>[.val (zh .i64) y])) a] [(b,.row zg c)] [] (λγ=>[(b,.row zg out)]):=by
 refine zco (F:=Tryz.f96) Om Om Om (λC=>?_);delta zar at ho;obtain ⟨y1,hy1,ho⟩:=bnd ho;refine gcm [0] [] (zdO hy1 b) ?_;intro g2;show zm ..;cases ho; exact zdD (zP [0] [] (.inl rfl) .n rfl Oa)
theorem zfd {c a out} (ho:zcq c a=Ob out) (b:zd):zfL ktab 67 [.raw b,.val (rFn ktab (zf×zf) Int (λx=>[.val zg x.1,.val zg x.2]) (λy=>[.val (zh .i64) y])) a] [(b,.row zg c)] [.row zg out] (λγ=>[]):=by
 refine zco (F:=Tryz.f67) Om Om Om (λC=>?_);delta zcq at ho;refine gnr zg ?_;obtain ⟨y1,hy1,ho⟩:=bnd ho;refine gcm [1] [0] (zcm hy1 b) ?_;intro g2;show zm ..;refine run 6 ?_;cases ho; exact zdR (zP [] [] (.inr rfl) (.r 0 rfl rfl .n) rfl Oa)
instance i52 {x_0}:FI ktab 52 (zbo x_0) [vI x_0] (λout=>[wB out]):=fw
instance i25 {a y_1}:FI ktab 25 (zbD a y_1) [vI a,vI y_1] (λout=>[wI out]):=fw
instance i69 {vals_0}:FI ktab 69 (zfY vals_0) [.val (zb (zh .i64)) vals_0] (λout=>[wI out]):=⟨λout ho=>by
 delta zfY at ho;refine fn λ_ _=>?_;obtain ⟨t9,ht9,ho⟩:=bnd ho;refine gl2 ht9 ho [3,6,7] [] [] (λs g=>([(8,vI s)],[])) (λb=>(.exit 0,λg=>([],[]))) (λb=>(.ret,λg=>([(2,vI b)],[]))) [] (λs4 g5 _ ho=>?_) (λba ho ga=>?_) λbb ho ga=>?_
 . exact we ho
 . exact we ho
 . exact rv ho⟩
instance i70 {a b_1}:FI ktab 70 (zgD a b_1) [.val zy a,.val zy b_1] (λout=>[wI out]):=fw
instance i68 {a b_1}:FI ktab 68 (zdv a b_1) [.val zg a,.val zg b_1] (λout=>[wI out]):=⟨λout ho=>by
 delta zdv at ho;refine fn λ_ _=>?_;obtain ⟨x6,hx6,x7,hx7,ho⟩:=zff ho;refine gcl ho λy8 hy8 ho=>?_;refine gcl ho λy9 hy9 ho=>?_;refine gcl ho λya hc ho=>?_;obtain ⟨ca,ha,ho⟩:=bnd ho;refine run 3 ?_;refine gcx ca [5,6,7] [] (λt=>(.normal,λ_=>([(34,vB t)],[]))) ?_ λ_=>?_
 . exact we ha
 . exact we ho⟩
end Go.Ai.TabYtnngmijajnldlaaGreat