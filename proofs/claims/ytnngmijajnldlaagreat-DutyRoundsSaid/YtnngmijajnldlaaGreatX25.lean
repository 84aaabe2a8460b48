/- Written by program: walks through functions. -/
import Derived.Test.YtnngmijajnldlaaGreatX11
import Derived.Test.YtnngmijajnldlaaGreatX20
import Derived.Test.YtnngmijajnldlaaGreatX24
import Derived.Test.YtnngmijajnldlaaGreatX19
import Derived.Test.YtnngmijajnldlaaGreatX21
set_option linter.unusedSimpArgs false
set_option linter.unusedVariables false
set_option linter.unusedSectionVars false
open Option renaming some→Ob
namespace Go.Ai.TabYtnngmijajnldlaaGreat
open Go Go.Ai Go.Ai.Sx Go.Proofs
attribute [local irreducible] zm
set_option maxRecDepth 100000
set_option maxHeartbeats 4000000
theorem zdk {rec:List Trip->Int->Int->Int->((Trip×Trip)->Option Int)->Option (List Trip)} (hrec:∀ {c h f e d} {out:(List Trip)},rec c h f e d=Ob out->∀ (a:zd),zfL ktab 103 [.raw a,.val (zh .i64) h,.val (zh .i64) f,.val (zh .i64) e,.val (rFn ktab (Trip×Trip) Int (λx=>[.val z9 x.1,.val z9 x.2]) (λy=>[.val (zh .i64) y])) d] [(a,.row z9 c)] [] (λγ=>[(a,.row z9 out)])) {c:(List Trip)} {h:Int} {f:Int} {e:Int} {d:((Trip×Trip)->Option Int)} {out:(List Trip)} (ho:zn rec c h f e d=Ob out) (a:zd):zfL ktab 103 [.raw a,.val (zh .i64) h,.val (zh .i64) f,.val (zh .i64) e,.val (rFn ktab (Trip×Trip) Int (λx=>[.val z9 x.1,.val z9 x.2]) (λy=>[.val (zh .i64) y])) d] [(a,.row z9 c)] [] (λγ=>[(a,.row z9 out)]):=by
 refine zco (F:=Tryz.f103) Om Om Om (λC=>?_);delta zn at ho;refine gct ho (λhq1 ho=>?_) λhq1 ho=>?_
 . obtain ⟨ta,ha,ho⟩:=bnd ho;refine glp ha [0,1,4] [0] [0] (λs g=>([(10,vI s.1),(11,vI s.2)],[])) (λb=>(.exit 0,λg=>([(10,vI b)],[]))) [] (λsa ga _ ho=>?_) λgb=>?_
   . refine gct ho (λhc ho=>?_) λhc ho=>?_
     . obtain ⟨xa,haE,ho⟩:=bnd ho;refine run 13 ?_;refine zaK [4,8] Z ?_;obtain ⟨xb,haF,xd,haG,ya,hd,ho⟩:=zok ho;refine gcv hd ?_;refine gct ho (λhe ho=>?_) λhe ho=>?_
       . exact lv [] [0] ho
       . exact lv [] [0] ho
     . exact lv [] [0] ho
   . obtain ⟨tb,hf,ho⟩:=bnd ho;refine glp hf [0,10] [] [0] (λs g=>([(13,vI s.1)],[(a,.row z9 s.2)])) (λb=>(.exit 2,λg=>([],[(a,.row z9 b)]))) [] (λsb gc _ ho=>?_) λgd=>?_
     . refine gct ho (λhg ho=>?_) λhg ho=>?_
       . refine run 3 ?_;refine zaK [9,13] Z ?_;obtain ⟨xe,haH,xf,haI,ho⟩:=zff ho;refine run 14 ?_;obtain ⟨xg,haJ,xh,haK,ho⟩:=zff ho;exact lv [] [0] ho
       . exact lv [] [0] ho
     . cases ho; exact zdR (zP [0] [] (.inr rfl) .n rfl Oa)
 . refine gct ho (λhh ho=>?_) λhh ho=>?_
   . obtain ⟨tc,hi,ho⟩:=bnd ho;refine glp hi [0,2,4] [0] [0] (λs g=>([(14,vI s.1),(15,vI s.2)],[])) (λb=>(.exit 4,λg=>([(14,vI b)],[]))) [] (λsc ge _ ho=>?_) λgf=>?_
     . refine gct ho (λhj ho=>?_) λhj ho=>?_
       . obtain ⟨xi,haL,ho⟩:=bnd ho;refine run 13 ?_;refine zaK [4,8] Z ?_;obtain ⟨xj,haM,xk,haN,yb,hk,ho⟩:=zok ho;refine gcv hk ?_;refine gct ho (λhl ho=>?_) λhl ho=>?_
         . exact lv [] [0] ho
         . exact lv [] [0] ho
       . exact lv [] [0] ho
     . obtain ⟨td,hm,ho⟩:=bnd ho;refine glp hm [0,14] [] [0] (λs g=>([(17,vI s.1)],[(a,.row z9 s.2)])) (λb=>(.exit 6,λg=>([],[(a,.row z9 b)]))) [] (λsd gg _ ho=>?_) λgh=>?_
       . refine gct ho (λhn ho=>?_) λhn ho=>?_
         . refine run 3 ?_;refine zaK [9,13] Z ?_;obtain ⟨xl,haO,xm,haP,ho⟩:=zff ho;refine run 14 ?_;obtain ⟨xn,haQ,xo,haR,ho⟩:=zff ho;exact lv [] [0] ho
         . exact lv [] [0] ho
       . cases ho; exact zdR (zP [0] [] (.inr rfl) .n rfl Oa)
   . obtain ⟨xp,haS,ho⟩:=bnd ho;refine gct ho (λhp ho=>?_) λhp ho=>?_
     . obtain ⟨te,hr,ho⟩:=bnd ho;refine glp hr [0,1,2,3,4,18,19,22] [0] [0] (λs g=>([(20,vI s.1),(21,vI s.2)],[])) (λb=>(.exit 8,λg=>([(20,vI b)],[]))) [] (λse gi _ ho=>?_) λgj=>?_
       . refine gct ho (λhs ho=>?_) λhs ho=>?_
         . obtain ⟨xq,haT,ho⟩:=bnd ho;refine run 13 ?_;refine zaK [6,10] Z ?_;obtain ⟨xr,haU,xt,haV,yc,ht,ho⟩:=zok ho;refine gcv ht ?_;refine gct ho (λhu ho=>?_) λhu ho=>?_
           . exact lv [] [0] ho
           . exact lv [] [0] ho
         . exact lv [] [0] ho
       . obtain ⟨ca,hv,ho⟩:=bnd ho;refine run 9 ?_;refine gcx ca [0,1,2,3,4,18,20,24] [0] (λt=>(.normal,λ_=>([(185,vB t)],[]))) ?_ λ_=>?_
         . have ho:=hv;refine wbr ho (λhw ho=>?_) λhw ho=>?_
           . exact lv [] [0] ho
           . exact lv [] [0] ho
         . refine gct ho (λhy ho=>?_) λhy ho=>?_
           . obtain ⟨yd,hz,ho⟩:=bnd ho;refine gcm [0] [] (zcn hz a) ?_;intro gk;show zm ..;obtain ⟨cc,hA,ho⟩:=bnd ho;refine run 3 ?_;refine gcx cc [0,1,3,4,18,20,24] [0] (λt=>(.normal,λ_=>([(199,vB t)],[]))) ?_ λ_=>?_
             . have ho:=hA;refine wbr ho (λhB ho=>?_) λhB ho=>?_
               . exact lv [] [0] ho
               . exact lv [] [0] ho
             . refine gct ho (λhC ho=>?_) λhC ho=>?_
               . obtain ⟨ye,hD,ho⟩:=bnd ho;refine gcm [0] [] (hrec hD a) ?_;intro gl;show zm ..;obtain ⟨cd,hE,ho⟩:=bnd ho;refine run 2 ?_;refine gcx cd [0,3,4,18,24] [0] (λt=>(.normal,λ_=>([(213,vB t)],[]))) ?_ λ_=>?_
                 . have ho:=hE;refine wbr ho (λhF ho=>?_) λhF ho=>?_
                   . exact lv [] [0] ho
                   . exact lv [] [0] ho
                 . refine gct ho (λhG ho=>?_) λhG ho=>?_
                   . obtain ⟨yf,hH,ho⟩:=bnd ho;refine gcm [0] [] (hrec hH a) ?_;intro gm;show zm ..;cases ho; exact zdD (zP [0] [] (.inl rfl) .n rfl Oa)
                   . cases ho; exact zdL (zP [0] [] (.inl rfl) .n rfl Oa)
               . obtain ⟨ce,hI,ho⟩:=bnd ho;refine run 2 ?_;refine gcx ce [0,3,4,18,24] [0] (λt=>(.normal,λ_=>([(213,vB t)],[]))) ?_ λ_=>?_
                 . have ho:=hI;refine wbr ho (λhJ ho=>?_) λhJ ho=>?_
                   . exact lv [] [0] ho
                   . exact lv [] [0] ho
                 . refine gct ho (λhK ho=>?_) λhK ho=>?_
                   . obtain ⟨yg,hL,ho⟩:=bnd ho;refine gcm [0] [] (hrec hL a) ?_;intro gn;show zm ..;cases ho; exact zdD (zP [0] [] (.inl rfl) .n rfl Oa)
                   . cases ho; exact zdL (zP [0] [] (.inl rfl) .n rfl Oa)
           . obtain ⟨cf,hM,ho⟩:=bnd ho;refine run 3 ?_;refine gcx cf [0,1,3,4,18,20,24] [0] (λt=>(.normal,λ_=>([(199,vB t)],[]))) ?_ λ_=>?_
             . have ho:=hM;refine wbr ho (λhN ho=>?_) λhN ho=>?_
               . exact lv [] [0] ho
               . exact lv [] [0] ho
             . refine gct ho (λhO ho=>?_) λhO ho=>?_
               . obtain ⟨yh,hP,ho⟩:=bnd ho;refine gcm [0] [] (hrec hP a) ?_;intro gp;show zm ..;obtain ⟨cg,hQ,ho⟩:=bnd ho;refine run 2 ?_;refine gcx cg [0,3,4,18,24] [0] (λt=>(.normal,λ_=>([(213,vB t)],[]))) ?_ λ_=>?_
                 . have ho:=hQ;refine wbr ho (λhR ho=>?_) λhR ho=>?_
                   . exact lv [] [0] ho
                   . exact lv [] [0] ho
                 . refine gct ho (λhS ho=>?_) λhS ho=>?_
                   . obtain ⟨yi,hT,ho⟩:=bnd ho;refine gcm [0] [] (hrec hT a) ?_;intro gq;show zm ..;cases ho; exact zdD (zP [0] [] (.inl rfl) .n rfl Oa)
                   . cases ho; exact zdL (zP [0] [] (.inl rfl) .n rfl Oa)
               . obtain ⟨ch,hU,ho⟩:=bnd ho;refine run 2 ?_;refine gcx ch [0,3,4,18,24] [0] (λt=>(.normal,λ_=>([(213,vB t)],[]))) ?_ λ_=>?_
                 . have ho:=hU;refine wbr ho (λhV ho=>?_) λhV ho=>?_
                   . exact lv [] [0] ho
                   . exact lv [] [0] ho
                 . refine gct ho (λhW ho=>?_) λhW ho=>?_
                   . obtain ⟨yj,hX,ho⟩:=bnd ho;refine gcm [0] [] (hrec hX a) ?_;intro gr;show zm ..;cases ho; exact zdD (zP [0] [] (.inl rfl) .n rfl Oa)
                   . cases ho; exact zdL (zP [0] [] (.inl rfl) .n rfl Oa)
     . obtain ⟨tf,hY,ho⟩:=bnd ho;refine glp hY [0,1,2,3,4,18,19,22] [0] [0] (λs g=>([(20,vI s.1),(21,vI s.2)],[])) (λb=>(.exit 8,λg=>([(20,vI b)],[]))) [] (λsf gs _ ho=>?_) λgt=>?_
       . refine gct ho (λhZ ho=>?_) λhZ ho=>?_
         . obtain ⟨xu,haW,ho⟩:=bnd ho;refine run 13 ?_;refine zaK [6,10] Z ?_;obtain ⟨xv,haX,xw,haY,yk,haa,ho⟩:=zok ho;refine gcv haa ?_;refine gct ho (λhab ho=>?_) λhab ho=>?_
           . exact lv [] [0] ho
           . exact lv [] [0] ho
         . exact lv [] [0] ho
       . obtain ⟨ci,hac,ho⟩:=bnd ho;refine run 9 ?_;refine gcx ci [0,1,2,3,4,18,20,24] [0] (λt=>(.normal,λ_=>([(185,vB t)],[]))) ?_ λ_=>?_
         . have ho:=hac;refine wbr ho (λhad ho=>?_) λhad ho=>?_
           . exact lv [] [0] ho
           . exact lv [] [0] ho
         . refine gct ho (λhae ho=>?_) λhae ho=>?_
           . obtain ⟨yl,haf,ho⟩:=bnd ho;refine gcm [0] [] (zcn haf a) ?_;intro gu;show zm ..;obtain ⟨cj,hag,ho⟩:=bnd ho;refine run 3 ?_;refine gcx cj [0,1,3,4,18,20,24] [0] (λt=>(.normal,λ_=>([(199,vB t)],[]))) ?_ λ_=>?_
             . have ho:=hag;refine wbr ho (λhah ho=>?_) λhah ho=>?_
               . exact lv [] [0] ho
               . exact lv [] [0] ho
             . refine gct ho (λhai ho=>?_) λhai ho=>?_
               . obtain ⟨ym,haj,ho⟩:=bnd ho;refine gcm [0] [] (hrec haj a) ?_;intro gv;show zm ..;obtain ⟨ck,hak,ho⟩:=bnd ho;refine run 2 ?_;refine gcx ck [0,3,4,18,24] [0] (λt=>(.normal,λ_=>([(213,vB t)],[]))) ?_ λ_=>?_
                 . have ho:=hak;refine wbr ho (λhal ho=>?_) λhal ho=>?_
                   . exact lv [] [0] ho
                   . exact lv [] [0] ho
                 . refine gct ho (λham ho=>?_) λham ho=>?_
                   . obtain ⟨yn,han,ho⟩:=bnd ho;refine gcm [0] [] (hrec han a) ?_;intro gw;show zm ..;cases ho; exact zdD (zP [0] [] (.inl rfl) .n rfl Oa)
                   . cases ho; exact zdL (zP [0] [] (.inl rfl) .n rfl Oa)
               . obtain ⟨cl,hao,ho⟩:=bnd ho;refine run 2 ?_;refine gcx cl [0,3,4,18,24] [0] (λt=>(.normal,λ_=>([(213,vB t)],[]))) ?_ λ_=>?_
                 . have ho:=hao;refine wbr ho (λhap ho=>?_) λhap ho=>?_
                   . exact lv [] [0] ho
                   . exact lv [] [0] ho
                 . refine gct ho (λhaq ho=>?_) λhaq ho=>?_
                   . obtain ⟨yo,har,ho⟩:=bnd ho;refine gcm [0] [] (hrec har a) ?_;intro gx;show zm ..;cases ho; exact zdD (zP [0] [] (.inl rfl) .n rfl Oa)
                   . cases ho; exact zdL (zP [0] [] (.inl rfl) .n rfl Oa)
           . obtain ⟨cm,has,ho⟩:=bnd ho;refine run 3 ?_;refine gcx cm [0,1,3,4,18,20,24] [0] (λt=>(.normal,λ_=>([(199,vB t)],[]))) ?_ λ_=>?_
             . have ho:=has;refine wbr ho (λhat ho=>?_) λhat ho=>?_
               . exact lv [] [0] ho
               . exact lv [] [0] ho
             . refine gct ho (λhau ho=>?_) λhau ho=>?_
               . obtain ⟨yp,hav,ho⟩:=bnd ho;refine gcm [0] [] (hrec hav a) ?_;intro gy;show zm ..;obtain ⟨cn,haw,ho⟩:=bnd ho;refine run 2 ?_;refine gcx cn [0,3,4,18,24] [0] (λt=>(.normal,λ_=>([(213,vB t)],[]))) ?_ λ_=>?_
                 . have ho:=haw;refine wbr ho (λhax ho=>?_) λhax ho=>?_
                   . exact lv [] [0] ho
                   . exact lv [] [0] ho
                 . refine gct ho (λhay ho=>?_) λhay ho=>?_
                   . obtain ⟨yq,haz,ho⟩:=bnd ho;refine gcm [0] [] (hrec haz a) ?_;intro gz;show zm ..;cases ho; exact zdD (zP [0] [] (.inl rfl) .n rfl Oa)
                   . cases ho; exact zdL (zP [0] [] (.inl rfl) .n rfl Oa)
               . obtain ⟨co,haA,ho⟩:=bnd ho;refine run 2 ?_;refine gcx co [0,3,4,18,24] [0] (λt=>(.normal,λ_=>([(213,vB t)],[]))) ?_ λ_=>?_
                 . have ho:=haA;refine wbr ho (λhaB ho=>?_) λhaB ho=>?_
                   . exact lv [] [0] ho
                   . exact lv [] [0] ho
                 . refine gct ho (λhaC ho=>?_) λhaC ho=>?_
                   . obtain ⟨yr,haD,ho⟩:=bnd ho;refine gcm [0] [] (hrec haD a) ?_;intro gA;show zm ..;cases ho; exact zdD (zP [0] [] (.inl rfl) .n rfl Oa)
                   . cases ho; exact zdL (zP [0] [] (.inl rfl) .n rfl Oa)
theorem zb6 {k:Nat} {a f e d b out} (ho:zr k a f e d b=Ob out) (c:zd):zfL ktab 103 [.raw c,.val (zh .i64) f,.val (zh .i64) e,.val (zh .i64) d,.val (rFn ktab (Trip×Trip) Int (λx=>[.val z9 x.1,.val z9 x.2]) (λy=>[.val (zh .i64) y])) b] [(c,.row z9 a)] [] (λγ=>[(c,.row z9 out)]):=by
 induction k generalizing a f e d b out c with
 | zero=>cases ho
 | succ k ih=>exact zdk (λh c=>ih h c) ho c
theorem zel {c e d out} (ho:za4 c e d=Ob out) (a:zd):zfL ktab 80 [.raw a,.val (zh .i64) e,.val (rFn ktab (Trip×Trip) Int (λx=>[.val z9 x.1,.val z9 x.2]) (λy=>[.val (zh .i64) y])) d] [(a,.row z9 c)] [] (λγ=>[(a,.row z9 out)]):=by
 refine zco (F:=Tryz.f80) Om Om Om (λC=>?_);delta za4 at ho;obtain ⟨ta,ha,ho⟩:=bnd ho;refine glp ha [0,1,2,6] [] [0] (λs g=>([(7,vI s.1),(8,vI s.2.1)],[(a,.row z9 s.2.2)])) (λb=>(.exit 0,λg=>([(7,vI b.1)],[(a,.row z9 b.2)]))) [] (λs7 g8 _ ho=>?_) λga=>?_
 . refine gct ho (λhq9 ho=>?_) λhq9 ho=>?_
   . obtain ⟨ya,hc,ho⟩:=bnd ho;refine gcm [0] [] (zbA hc a) ?_;intro gb;show zm ..;exact lv [] [0] ho
   . exact lv [] [0] ho
 . obtain ⟨yb,hd,ho⟩:=bnd ho;refine gcm [0] [] (zbA hd a) ?_;intro gc;show zm ..;obtain ⟨tb,he,ho⟩:=bnd ho;refine glp he [0,1,2] [] [0] (λs g=>([(6,vI s.1)],[(a,.row z9 s.2)])) (λb=>(.exit 2,λg=>([],[(a,.row z9 b)]))) [] (λsa gd _ ho=>?_) λge=>?_
   . refine gct ho (λhf ho=>?_) λhf ho=>?_
     . obtain ⟨tc,hg,ho⟩:=bnd ho;refine glp hg [0,1,2,6] [] [0] (λs g=>([(7,vI s.1),(8,vI s.2.1)],[(a,.row z9 s.2.2)])) (λb=>(.exit 4,λg=>([(7,vI b.1)],[(a,.row z9 b.2)]))) [] (λsb gf _ ho=>?_) λgg=>?_
       . refine gct ho (λhh ho=>?_) λhh ho=>?_
         . obtain ⟨yc,hi,ho⟩:=bnd ho;refine gcm [0] [] (zb6 hi a) ?_;intro gh;show zm ..;exact lv [] [0] ho
         . exact lv [] [0] ho
       . refine gct ho (λhj ho=>?_) λhj ho=>?_
         . obtain ⟨yd,hk,ho⟩:=bnd ho;refine gcm [0] [] (zb6 hk a) ?_;intro gi;show zm ..;exact lv [] [0] ho
         . exact lv [] [0] ho
     . exact lv [] [0] ho
   . cases ho; exact id (zP [0] [] (.inl rfl) .n rfl Oa)
theorem zc0 {c a out} (ho:zY c a=Ob out) (b:zd):zfL ktab 51 [.raw b,.val (rFn ktab (Trip×Trip) Int (λx=>[.val z9 x.1,.val z9 x.2]) (λy=>[.val (zh .i64) y])) a] [(b,.row z9 c)] [] (λγ=>[(b,.row z9 out)]):=by
 refine zco (F:=Tryz.f51) Om Om Om (λC=>?_);delta zY at ho;obtain ⟨y1,hy1,ho⟩:=bnd ho;refine gcm [0] [] (zel hy1 b) ?_;intro g2;show zm ..;cases ho; exact zdD (zP [0] [] (.inl rfl) .n rfl Oa)
instance i23 {a l_1}:FI ktab 23 (zbM a l_1) [.val (rFn ktab (Trip×Trip) Int (λx=>[.val z9 x.1,.val z9 x.2]) (λy=>[.val (zh .i64) y])) a,.val (zb (zb z9)) l_1] (λout=>[.row z9 out]):=⟨λout ho=>by
 delta zbM at ho;refine fn λ_ _=>?_;refine gnr z9 ?_;refine gcl ho λy1 hy1 ho=>?_;intro v2;show zm ..;obtain ⟨y3,hy3,ho⟩:=bnd ho;refine gcm [0] [1] (zc0 hy3 v2) ?_;intro g4;exact we ho⟩
instance i24 {a b_1}:FI ktab 24 (zcW a b_1) [.val z9 a,.val z9 b_1] (λout=>[wI out]):=fw
instance i6 {i e j d until_4}:FI ktab 6 (zci i e j d until_4) [.val zdS i,.val zd0 e,.val (zb zeC) j,vI d,vI until_4] (λout=>[.row z9 out.1,wI out.2]):=⟨λout ho=>by
 delta zci at ho;refine fn λ_ _=>?_;refine gnr z9 ?_;refine gcl ho λy1 hy1 ho=>?_;obtain ⟨c7,hc7,ho⟩:=bnd ho;refine run 8 ?_;refine gcx c7 [3,6,7,9,12] [0] (λt=>(.normal,λ_=>([(45,vB t)],[]))) ?_ λ_=>?_
 . have ho:=hc7;refine wbr ho (λhb8 ho=>?_) λhb8 ho=>?_
   . exact lv [] [0] ho
   . refine gcl ho λy9 hy9 ho=>?_;refine wbr ho (λhc ho=>?_) λhc ho=>?_
     . exact lv [] [0] ho
     . refine gcl ho λya hp ho=>?_;refine wbr ho (λhd ho=>?_) λhd ho=>?_
       . exact lv [] [0] ho
       . exact lv [] [0] ho
 . refine gct ho (λhe ho=>?_) λhe ho=>?_
   . refine gnr z9 ?_;exact we ho
   . refine gnr (zb z9) ?_;obtain ⟨tb,hg,ho⟩:=bnd ho;refine glp hg [3,6,7,9,46,47] [] [0] (λs g=>([(14,.raw (gh g 0)),(48,vI s.2)],[(gh g 0,.row (zb z9) s.1)])) (λb=>(.exit 0,λg=>([(14,.raw (gh g 0))],[(gh g 0,.row (zb z9) b)]))) [.nsz] (λsb gb _ ho=>?_) λge=>?_
     . refine gct ho (λhh ho=>?_) λhh ho=>?_
       . obtain ⟨xa,hr,ho⟩:=bnd ho;refine gal λbb=>?_;refine gal λbc=>?_;refine run 1 ?_;refine zdh (zb8 (R:=zh .i64) (a:=sb.2) 1 [15] (zz rfl) rfl rfl ⟨rfl,trivial⟩) ?_;refine run 1 ?_;refine zdh (zb8 (R:=zL zl) (a:=xa) 0 [16] (zz rfl) rfl rfl ⟨rfl,trivial⟩) ?_;obtain ⟨tc,hi,ho⟩:=bnd ho;refine glp hi [3,6,7,9,15,16,46,47,48] [] [0] (λs g=>([(14,.raw (gh g 0)),(53,vI s.2)],[(gh g 0,.row (zb z9) s.1)])) (λb=>(.exit 2,λg=>([(14,.raw (gh g 0))],[(gh g 0,.row (zb z9) b)]))) [gh gb 0] (λsa ga _ ho=>?_) λgd=>?_
         . refine gct ho (λhj ho=>?_) λhj ho=>?_
           . refine gal λbd=>?_;refine run 1 ?_;refine zdh (zb8 (R:=zh .i64) (a:=sa.2) 0 [17] (zz rfl) rfl rfl ⟨rfl,trivial⟩) ?_;refine run 3 ?_;refine zdh (zbN z9) ?_;refine gal λba=>?_;obtain ⟨xb,hs,xd,ht,ho⟩:=zff ho;refine gcl ho λyb hu ho=>?_;obtain ⟨ta,ha,ho⟩:=bnd ho;refine run 2 ?_;refine zsb (σ:=List Trip) (τ:=List Trip) (X:=(Int×Int)) (ins:=(λx=>[.val (zh .i64) x.1,.val (zh .i64) x.2])) (zBp (λs g=>[(.ptr ba 0,.box [.raw (gh g 0)]),(gh ga 0,.row (zb z9) sa.1),(gh g 0,.row z9 s)]) (λt g=>[(.ptr ba 0,.box [.raw (gh g 0)]),(gh ga 0,.row (zb z9) sa.1),(gh g 0,.row z9 t)])) (λ_=>Ob 4) (s0:=[]) (r:=ta) [.nsz] [0,2,1] [] rfl (.t rfl) rfl rfl Oa (λ_=>rfl) (λyv K hcb γ=>zeA hcb ha γ) ?_ ?_
             . clear ho ha;intro sc gc xe r193 ho C;refine run 6 ?_;refine zdD (λfr h s=>And.intro rfl (Exists.intro _ (Exists.intro _ (And.intro s (λC=>?_)))));refine gcl ho λyc hv ho=>?_;refine gct ho (λhk ho=>?_) λhk ho=>?_
               . cases ho; exact zpC (λfr h s=>And.intro rfl (Exists.intro [gh gc 0] (s.pick [0,1,2] trivial rfl Oa)))
               . refine gcl ho λyd hw ho=>?_;refine gct ho (λhl ho=>?_) λhl ho=>?_
                 . obtain ⟨xf,hy,ho⟩:=bnd ho;refine gap λva=>?_;refine zbv 1 0 (U32).sz rfl rfl Og (.n rfl) rfl rfl (.t rfl) (.t rfl) Om ?_;cases ho; exact zdD (λfr h s=>And.intro rfl (Exists.intro [va] (s.pick [1,2,0] trivial rfl Oa)))
                 . cases ho; exact zdL (λfr h s=>And.intro rfl (Exists.intro [gh gc 0] (s.pick [0,1,2] trivial rfl Oa)))
             . clear ha;rcases ta with be | bf
               . have ho:=zwY ho;intro gf;refine gwk [3,6,7,9,14,15,16,17,18,46,47,48,53,54,55,56,57,58,59,60,61,62,63,64,65,66,67,68,69] [0,1,2] ?_;refine run 3 ?_;refine zdh (zcS 2 0 (q:=0) [94] rfl rfl rfl rfl Om ⟨rfl,trivial⟩) ?_;obtain ⟨xg,hz,ho⟩:=bnd ho;refine gap λvb=>?_;exact lv [vb] [0] ho
               . have ho:=zwZ ho;intro gg;refine gwk [3,6,7,9,14,15,16,17,18,46,47,48,53,54,55,56,57,58,59,60,61,62,63,64,65,66,67,68,69] [0,1,2] ?_;refine run 3 ?_;refine zdh (zcS 2 0 (q:=0) [94] rfl rfl rfl rfl Om ⟨rfl,trivial⟩) ?_;obtain ⟨xh,hA,ho⟩:=bnd ho;refine gap λvc=>?_;exact lv [vc] [0] ho
           . exact lv [gh ga 0] [0] ho
         . exact lv [gh gd 0] [0] ho
       . exact lv [gh gb 0] [0] ho
     . obtain ⟨ye,hm,ho⟩:=bnd ho;refine run 3 ?_;refine zfF (i23.ok _ hm) (.r (zcf zc9 (zcf zeX (zcf zc9 (zcf zc9 zg7)))) .n) rfl (.n rfl) rfl rfl rfl .f (.c (.o (.fv (zge (λx y hf=>i24.ok _ hf) rfl))) (.c (.r 0 (.t rfl) rfl) .n)) ?_;intro vd;show zm ..;refine gct ho (λhn ho=>?_) λhn ho=>?_
       . refine gnr z9 ?_;exact we ho
       . exact we ho⟩
instance i7 {b a headway_2}:FI ktab 7 (zdg b a headway_2) [.val zdS b,.val zfN a,vI headway_2] (λout=>[wI out.1,wI out.2]):=⟨λout ho=>by
 delta zdg at ho;refine fn λ_ _=>?_;refine gcl ho λy1 hy1 ho=>?_;obtain ⟨c4,hc4,ho⟩:=bnd ho;refine run 8 ?_;refine gcx c4 [2,8] [] (λt=>(.normal,λ_=>([(22,vB t)],[]))) ?_ λ_=>?_
 . exact we hc4
 . refine gct ho (λhq7 ho=>?_) λhq7 ho=>?_
   . exact we ho
   . obtain ⟨p8,hp8,ho⟩:=bnd ho;refine run 5 ?_;refine zdh (zcr (n:=23) hp8 rfl) ?_;exact we ho⟩
instance i28 {a s_1}:FI ktab 28 (zey a s_1) [.val zdS a,.val zd0 s_1] (λout=>[wI out]):=fw
instance i56 {home_0}:FI ktab 56 (zf4 home_0) [vB home_0] (λout=>[wI out]):=fw
instance i30 {b a home_2}:FI ktab 30 (zcd b a home_2) [.val zdS b,.val zfN a,vB home_2] (λout=>[.val (zb (zh .i64)) out.1,wI out.2]):=⟨λout ho=>by
 delta zcd at ho;refine fn λ_ _=>?_;refine run 4 ?_;refine zeq (.n rfl) rfl rfl (.nil (R:=zh .i64)) ?_;refine gcl ho λy1 hy1 ho=>?_;refine gct ho (λhq2 ho=>?_) λhq2 ho=>?_
 . refine run 2 ?_;refine zeq (.n rfl) rfl rfl (.nil (R:=zh .i64)) ?_;exact we ho
 . refine gcl ho λy6 hy6 ho=>?_;obtain ⟨p7,hp7,ho⟩:=bnd ho;refine zdh (zcr (n:=18) hp7 rfl) ?_;obtain ⟨x8,hx8,ho⟩:=bnd ho;refine run 2 ?_;refine zcX ia' hx8 (.n rfl) rfl rfl (.t rfl) (.t rfl) ?_;exact we ho⟩
end Go.Ai.TabYtnngmijajnldlaaGreat
namespace Go.Ai.TabYtnngmijajnldlaaGreat
open Go Go.Ai Go.Ai.Sx Go.Proofs
attribute [local irreducible] zm
set_option maxRecDepth 100000
set_option maxHeartbeats 4000000
instance i8 {c a trips_2}:FI ktab 8 (ze4 c a trips_2) [.val zdS c,.val zd0 a,.val (zb z9) trips_2] (λout=>[.row zcp out.1,wI out.2]):=⟨λout ho=>by
 delta ze4 at ho;refine fn λ_ _=>?_;refine gnr zcp ?_;refine gcl ho λy1 hy1 ho=>?_;refine gct ho (λhq2 ho=>?_) λhq2 ho=>?_
 . refine gnr zcp ?_;exact we ho
 . obtain ⟨ta,ha,ho⟩:=bnd ho;refine gl2 ha ho [2,3,4,20,21] [] [] (λs g=>([(22,vI s)],[])) (λb=>(.exit 0,λg=>([],[]))) (λb=>(.ret,λg=>([(6,.raw (gh g 0)),(7,vI b.2)],[(gh g 0,.row zcp b.1)]))) [] (λsa gd _ ho=>?_) (λba ho ga=>?_) λbb ho ga=>?_
   . refine gct ho (λhc ho=>?_) λhc ho=>?_
     . obtain ⟨xd,hp,ho⟩:=bnd ho;refine gal λbc=>?_;refine gfz 2 z9 xd 0 [9] ?_;refine gcl ho λya hr ho=>?_;refine wbr ho (λhd ho=>?_) λhd ho=>?_
       . refine gk ?_;refine gnr zcp ?_;exact lv [.nsz] [0] ho
       . refine gcl ho λyb hs ho=>?_;refine wbr ho (λhe ho=>?_) λhe ho=>?_
         . refine gk ?_;refine gnr zcp ?_;exact lv [.nsz] [0] ho
         . refine wbr ho (λhf ho=>?_) λhf ho=>?_
           . obtain ⟨xe,ht,ho⟩:=bnd ho;refine gct ho (λhg ho=>?_) λhg ho=>?_
             . refine gnr zcp ?_;exact lv [.nsz] [0] ho
             . exact we ho
           . refine gk ?_;exact we ho
     . exact lv [] [] ho
   . refine gct ho (λhh ho=>?_) λhh ho=>?_
     . refine gnr zcp ?_;exact we ho
     . refine gnr zcp ?_;obtain ⟨tb,hi,ho⟩:=bnd ho;refine gl2 hi ho [3,4,60,61] [] [0] (λs g=>([(10,.raw (gh g 0)),(62,vI s.2)],[(gh g 0,.row zcp s.1)])) (λb=>(.exit 2,λg=>([(10,.raw (gh g 0))],[(gh g 0,.row zcp b)]))) (λb=>(.ret,λg=>([(6,.raw (gh g 0)),(7,vI b.2)],[(gh g 0,.row zcp b.1)]))) [.nsz] (λsb gb _ ho=>?_) (λbd ho gc=>?_) λbe ho gc=>?_
       . refine gct ho (λhj ho=>?_) λhj ho=>?_
         . obtain ⟨xa,hu,ho⟩:=bnd ho;refine gal λbf=>?_;refine gfz 1 z9 xa 0 [12] ?_;obtain ⟨xf,hv,ho⟩:=bnd ho;refine gcl ho λyc hw ho=>?_;refine gct ho (λhk ho=>?_) λhk ho=>?_
           . refine gnr zcp ?_;exact lv [.nsz] [0] ho
           . obtain ⟨xb,hy,ho⟩:=bnd ho;refine gal λbg=>?_;refine gct ho (λhl ho=>?_) λhl ho=>?_
             . refine gct ho (λhm ho=>?_) λhm ho=>?_
               . refine gnr zcp ?_;exact lv [.nsz] [0] ho
               . refine glb (w64 (w64 (2*xa.1)+1),w64 (2*xa.1),xa.d3.1,w64 (xa.d3.1+xb),()) 0 ?_;obtain ⟨xg,hz,ho⟩:=bnd ho;refine gap λva=>?_;exact lv [va] [0] ho
             . refine gct ho (λhn ho=>?_) λhn ho=>?_
               . refine gnr zcp ?_;exact lv [.nsz] [0] ho
               . refine glb ((w64 (2*xa.1),w64 (w64 (2*xa.1)+1),xa.d3.1,w64 (xa.d3.1+xb),()):Task) 0 ?_;obtain ⟨xh,hA,ho⟩:=bnd ho;refine gap λvb=>?_;exact lv [vb] [0] ho
         . exact lv [gh gb 0] [0] ho
       . exact we ho
       . exact rv ho
   . exact rv ho⟩
instance i9 {a c b b_3}:FI ktab 9 (zdX a c b b_3) [.val (zb zcp) a,.val zhV c,vI b,vI b_3] (λout=>[wB out.1,wI out.2]):=⟨λout ho=>by
 delta zdX at ho;refine fn λ_ _=>?_;obtain ⟨c6,hc6,ho⟩:=bnd ho;refine run 8 ?_;refine gcx c6 [0,2,3,5] [] (λt=>(.normal,λ_=>([(29,vB t)],[]))) ?_ λ_=>?_
 . exact we hc6
 . exact we ho⟩
end Go.Ai.TabYtnngmijajnldlaaGreat