/- Written by program: walks through functions. -/
import Derived.Test.YtfamdelkpempgaaGreatW11
import Derived.Test.YtfamdelkpempgaaGreatW22
import Derived.Test.YtfamdelkpempgaaGreatW19
set_option linter.unusedSimpArgs false
set_option linter.unusedVariables false
set_option linter.unusedSectionVars false
open Option renaming some→Ob
namespace Go.Ai.TabYtfamdelkpempgaaGreat
open Go Go.Ai Go.Ai.Sx Go.Proofs
attribute [local irreducible] zr
set_option maxRecDepth 100000
set_option maxHeartbeats 4000000
theorem zdj {rec:List Trip->Int->Int->Int->((Trip×Trip)->Option Int)->Option (List Trip)} (hrec:∀ {c e h f d} {out:(List Trip)},rec c e h f d=Ob out->∀ (a:zb),zh1 ktab 169 [.raw a,.val (zi .i64) e,.val (zi .i64) h,.val (zi .i64) f,.val (rFn ktab (Trip×Trip) Int (λx=>[.val z8 x.1,.val z8 x.2]) (λy=>[.val (zi .i64) y])) d] [(a,.row z8 c)] [] (λγ=>[(a,.row z8 out)])) {c:(List Trip)} {e:Int} {h:Int} {f:Int} {d:((Trip×Trip)->Option Int)} {out:(List Trip)} (ho:zn rec c e h f d=Ob out) (a:zb):zh1 ktab 169 [.raw a,.val (zi .i64) e,.val (zi .i64) h,.val (zi .i64) f,.val (rFn ktab (Trip×Trip) Int (λx=>[.val z8 x.1,.val z8 x.2]) (λy=>[.val (zi .i64) y])) d] [(a,.row z8 c)] [] (λγ=>[(a,.row z8 out)]):=by
 refine zeT (F:=Tryz.f169) Om Om Om (λC=>?_);delta zn at ho;refine gct ho (λhq1 ho=>?_) λhq1 ho=>?_
 . obtain ⟨ta,ha,ho⟩:=bnd ho;refine glp ha [0,1,4] [0] [0] (λs g=>([(10,vI s.1),(11,vI s.2)],[])) (λb=>(.exit 0,λg=>([(10,vI b)],[]))) [] (λsa ga _ ho=>?_) λgb=>?_
   . refine gct ho (λhc ho=>?_) λhc ho=>?_
     . obtain ⟨xa,haE,ho⟩:=bnd ho;refine run 13 ?_;refine zax [4,8] Z ?_;obtain ⟨xb,haF,xd,haG,ya,hd,ho⟩:=zsK ho;refine gcv hd ?_;refine gct ho (λhe ho=>?_) λhe ho=>?_
       . exact lv [] [0] ho
       . exact lv [] [0] ho
     . exact lv [] [0] ho
   . obtain ⟨tb,hf,ho⟩:=bnd ho;refine glp hf [0,10] [] [0] (λs g=>([(13,vI s.1)],[(a,.row z8 s.2)])) (λb=>(.exit 2,λg=>([],[(a,.row z8 b)]))) [] (λsb gc _ ho=>?_) λgd=>?_
     . refine gct ho (λhg ho=>?_) λhg ho=>?_
       . refine run 3 ?_;refine zax [9,13] Z ?_;obtain ⟨xe,haH,xf,haI,ho⟩:=zge ho;refine run 14 ?_;obtain ⟨xg,haJ,xh,haK,ho⟩:=zge ho;exact lv [] [0] ho
       . exact lv [] [0] ho
     . cases ho; exact zfr (za7 [0] [] (.inr rfl) .n rfl Oa)
 . refine gct ho (λhh ho=>?_) λhh ho=>?_
   . obtain ⟨tc,hi,ho⟩:=bnd ho;refine glp hi [0,2,4] [0] [0] (λs g=>([(14,vI s.1),(15,vI s.2)],[])) (λb=>(.exit 4,λg=>([(14,vI b)],[]))) [] (λsc ge _ ho=>?_) λgf=>?_
     . refine gct ho (λhj ho=>?_) λhj ho=>?_
       . obtain ⟨xi,haL,ho⟩:=bnd ho;refine run 13 ?_;refine zax [4,8] Z ?_;obtain ⟨xj,haM,xk,haN,yb,hk,ho⟩:=zsK ho;refine gcv hk ?_;refine gct ho (λhl ho=>?_) λhl ho=>?_
         . exact lv [] [0] ho
         . exact lv [] [0] ho
       . exact lv [] [0] ho
     . obtain ⟨td,hm,ho⟩:=bnd ho;refine glp hm [0,14] [] [0] (λs g=>([(17,vI s.1)],[(a,.row z8 s.2)])) (λb=>(.exit 6,λg=>([],[(a,.row z8 b)]))) [] (λsd gg _ ho=>?_) λgh=>?_
       . refine gct ho (λhn ho=>?_) λhn ho=>?_
         . refine run 3 ?_;refine zax [9,13] Z ?_;obtain ⟨xl,haO,xm,haP,ho⟩:=zge ho;refine run 14 ?_;obtain ⟨xn,haQ,xo,haR,ho⟩:=zge ho;exact lv [] [0] ho
         . exact lv [] [0] ho
       . cases ho; exact zfr (za7 [0] [] (.inr rfl) .n rfl Oa)
   . obtain ⟨xp,haS,ho⟩:=bnd ho;refine gct ho (λhp ho=>?_) λhp ho=>?_
     . obtain ⟨te,hr,ho⟩:=bnd ho;refine glp hr [0,1,2,3,4,18,19,22] [0] [0] (λs g=>([(20,vI s.1),(21,vI s.2)],[])) (λb=>(.exit 8,λg=>([(20,vI b)],[]))) [] (λse gi _ ho=>?_) λgj=>?_
       . refine gct ho (λhs ho=>?_) λhs ho=>?_
         . obtain ⟨xq,haT,ho⟩:=bnd ho;refine run 13 ?_;refine zax [6,10] Z ?_;obtain ⟨xr,haU,xt,haV,yc,ht,ho⟩:=zsK ho;refine gcv ht ?_;refine gct ho (λhu ho=>?_) λhu ho=>?_
           . exact lv [] [0] ho
           . exact lv [] [0] ho
         . exact lv [] [0] ho
       . obtain ⟨ca,hv,ho⟩:=bnd ho;refine run 9 ?_;refine gcx ca [0,1,2,3,4,18,20,24] [0] (λt=>(.normal,λ_=>([(185,vB t)],[]))) ?_ λ_=>?_
         . have ho:=hv;refine wbr ho (λhw ho=>?_) λhw ho=>?_
           . exact lv [] [0] ho
           . exact lv [] [0] ho
         . refine gct ho (λhy ho=>?_) λhy ho=>?_
           . obtain ⟨yd,hz,ho⟩:=bnd ho;refine gcm [0] [] (zcv hz a) ?_;intro gk;show zr ..;obtain ⟨cc,hA,ho⟩:=bnd ho;refine run 3 ?_;refine gcx cc [0,1,3,4,18,20,24] [0] (λt=>(.normal,λ_=>([(199,vB t)],[]))) ?_ λ_=>?_
             . have ho:=hA;refine wbr ho (λhB ho=>?_) λhB ho=>?_
               . exact lv [] [0] ho
               . exact lv [] [0] ho
             . refine gct ho (λhC ho=>?_) λhC ho=>?_
               . obtain ⟨ye,hD,ho⟩:=bnd ho;refine gcm [0] [] (hrec hD a) ?_;intro gl;show zr ..;obtain ⟨cd,hE,ho⟩:=bnd ho;refine run 2 ?_;refine gcx cd [0,3,4,18,24] [0] (λt=>(.normal,λ_=>([(213,vB t)],[]))) ?_ λ_=>?_
                 . have ho:=hE;refine wbr ho (λhF ho=>?_) λhF ho=>?_
                   . exact lv [] [0] ho
                   . exact lv [] [0] ho
                 . refine gct ho (λhG ho=>?_) λhG ho=>?_
                   . obtain ⟨yf,hH,ho⟩:=bnd ho;refine gcm [0] [] (hrec hH a) ?_;intro gm;show zr ..;cases ho; exact zfp (za7 [0] [] (.inl rfl) .n rfl Oa)
                   . cases ho; exact zgt (za7 [0] [] (.inl rfl) .n rfl Oa)
               . obtain ⟨ce,hI,ho⟩:=bnd ho;refine run 2 ?_;refine gcx ce [0,3,4,18,24] [0] (λt=>(.normal,λ_=>([(213,vB t)],[]))) ?_ λ_=>?_
                 . have ho:=hI;refine wbr ho (λhJ ho=>?_) λhJ ho=>?_
                   . exact lv [] [0] ho
                   . exact lv [] [0] ho
                 . refine gct ho (λhK ho=>?_) λhK ho=>?_
                   . obtain ⟨yg,hL,ho⟩:=bnd ho;refine gcm [0] [] (hrec hL a) ?_;intro gn;show zr ..;cases ho; exact zfp (za7 [0] [] (.inl rfl) .n rfl Oa)
                   . cases ho; exact zgt (za7 [0] [] (.inl rfl) .n rfl Oa)
           . obtain ⟨cf,hM,ho⟩:=bnd ho;refine run 3 ?_;refine gcx cf [0,1,3,4,18,20,24] [0] (λt=>(.normal,λ_=>([(199,vB t)],[]))) ?_ λ_=>?_
             . have ho:=hM;refine wbr ho (λhN ho=>?_) λhN ho=>?_
               . exact lv [] [0] ho
               . exact lv [] [0] ho
             . refine gct ho (λhO ho=>?_) λhO ho=>?_
               . obtain ⟨yh,hP,ho⟩:=bnd ho;refine gcm [0] [] (hrec hP a) ?_;intro gp;show zr ..;obtain ⟨cg,hQ,ho⟩:=bnd ho;refine run 2 ?_;refine gcx cg [0,3,4,18,24] [0] (λt=>(.normal,λ_=>([(213,vB t)],[]))) ?_ λ_=>?_
                 . have ho:=hQ;refine wbr ho (λhR ho=>?_) λhR ho=>?_
                   . exact lv [] [0] ho
                   . exact lv [] [0] ho
                 . refine gct ho (λhS ho=>?_) λhS ho=>?_
                   . obtain ⟨yi,hT,ho⟩:=bnd ho;refine gcm [0] [] (hrec hT a) ?_;intro gq;show zr ..;cases ho; exact zfp (za7 [0] [] (.inl rfl) .n rfl Oa)
                   . cases ho; exact zgt (za7 [0] [] (.inl rfl) .n rfl Oa)
               . obtain ⟨ch,hU,ho⟩:=bnd ho;refine run 2 ?_;refine gcx ch [0,3,4,18,24] [0] (λt=>(.normal,λ_=>([(213,vB t)],[]))) ?_ λ_=>?_
                 . have ho:=hU;refine wbr ho (λhV ho=>?_) λhV ho=>?_
                   . exact lv [] [0] ho
                   . exact lv [] [0] ho
                 . refine gct ho (λhW ho=>?_) λhW ho=>?_
                   . obtain ⟨yj,hX,ho⟩:=bnd ho;refine gcm [0] [] (hrec hX a) ?_;intro gr;show zr ..;cases ho; exact zfp (za7 [0] [] (.inl rfl) .n rfl Oa)
                   . cases ho; exact zgt (za7 [0] [] (.inl rfl) .n rfl Oa)
     . obtain ⟨tf,hY,ho⟩:=bnd ho;refine glp hY [0,1,2,3,4,18,19,22] [0] [0] (λs g=>([(20,vI s.1),(21,vI s.2)],[])) (λb=>(.exit 8,λg=>([(20,vI b)],[]))) [] (λsf gs _ ho=>?_) λgt=>?_
       . refine gct ho (λhZ ho=>?_) λhZ ho=>?_
         . obtain ⟨xu,haW,ho⟩:=bnd ho;refine run 13 ?_;refine zax [6,10] Z ?_;obtain ⟨xv,haX,xw,haY,yk,haa,ho⟩:=zsK ho;refine gcv haa ?_;refine gct ho (λhab ho=>?_) λhab ho=>?_
           . exact lv [] [0] ho
           . exact lv [] [0] ho
         . exact lv [] [0] ho
       . obtain ⟨ci,hac,ho⟩:=bnd ho;refine run 9 ?_;refine gcx ci [0,1,2,3,4,18,20,24] [0] (λt=>(.normal,λ_=>([(185,vB t)],[]))) ?_ λ_=>?_
         . have ho:=hac;refine wbr ho (λhad ho=>?_) λhad ho=>?_
           . exact lv [] [0] ho
           . exact lv [] [0] ho
         . refine gct ho (λhae ho=>?_) λhae ho=>?_
           . obtain ⟨yl,haf,ho⟩:=bnd ho;refine gcm [0] [] (zcv haf a) ?_;intro gu;show zr ..;obtain ⟨cj,hag,ho⟩:=bnd ho;refine run 3 ?_;refine gcx cj [0,1,3,4,18,20,24] [0] (λt=>(.normal,λ_=>([(199,vB t)],[]))) ?_ λ_=>?_
             . have ho:=hag;refine wbr ho (λhah ho=>?_) λhah ho=>?_
               . exact lv [] [0] ho
               . exact lv [] [0] ho
             . refine gct ho (λhai ho=>?_) λhai ho=>?_
               . obtain ⟨ym,haj,ho⟩:=bnd ho;refine gcm [0] [] (hrec haj a) ?_;intro gv;show zr ..;obtain ⟨ck,hak,ho⟩:=bnd ho;refine run 2 ?_;refine gcx ck [0,3,4,18,24] [0] (λt=>(.normal,λ_=>([(213,vB t)],[]))) ?_ λ_=>?_
                 . have ho:=hak;refine wbr ho (λhal ho=>?_) λhal ho=>?_
                   . exact lv [] [0] ho
                   . exact lv [] [0] ho
                 . refine gct ho (λham ho=>?_) λham ho=>?_
                   . obtain ⟨yn,han,ho⟩:=bnd ho;refine gcm [0] [] (hrec han a) ?_;intro gw;show zr ..;cases ho; exact zfp (za7 [0] [] (.inl rfl) .n rfl Oa)
                   . cases ho; exact zgt (za7 [0] [] (.inl rfl) .n rfl Oa)
               . obtain ⟨cl,hao,ho⟩:=bnd ho;refine run 2 ?_;refine gcx cl [0,3,4,18,24] [0] (λt=>(.normal,λ_=>([(213,vB t)],[]))) ?_ λ_=>?_
                 . have ho:=hao;refine wbr ho (λhap ho=>?_) λhap ho=>?_
                   . exact lv [] [0] ho
                   . exact lv [] [0] ho
                 . refine gct ho (λhaq ho=>?_) λhaq ho=>?_
                   . obtain ⟨yo,har,ho⟩:=bnd ho;refine gcm [0] [] (hrec har a) ?_;intro gx;show zr ..;cases ho; exact zfp (za7 [0] [] (.inl rfl) .n rfl Oa)
                   . cases ho; exact zgt (za7 [0] [] (.inl rfl) .n rfl Oa)
           . obtain ⟨cm,has,ho⟩:=bnd ho;refine run 3 ?_;refine gcx cm [0,1,3,4,18,20,24] [0] (λt=>(.normal,λ_=>([(199,vB t)],[]))) ?_ λ_=>?_
             . have ho:=has;refine wbr ho (λhat ho=>?_) λhat ho=>?_
               . exact lv [] [0] ho
               . exact lv [] [0] ho
             . refine gct ho (λhau ho=>?_) λhau ho=>?_
               . obtain ⟨yp,hav,ho⟩:=bnd ho;refine gcm [0] [] (hrec hav a) ?_;intro gy;show zr ..;obtain ⟨cn,haw,ho⟩:=bnd ho;refine run 2 ?_;refine gcx cn [0,3,4,18,24] [0] (λt=>(.normal,λ_=>([(213,vB t)],[]))) ?_ λ_=>?_
                 . have ho:=haw;refine wbr ho (λhax ho=>?_) λhax ho=>?_
                   . exact lv [] [0] ho
                   . exact lv [] [0] ho
                 . refine gct ho (λhay ho=>?_) λhay ho=>?_
                   . obtain ⟨yq,haz,ho⟩:=bnd ho;refine gcm [0] [] (hrec haz a) ?_;intro gz;show zr ..;cases ho; exact zfp (za7 [0] [] (.inl rfl) .n rfl Oa)
                   . cases ho; exact zgt (za7 [0] [] (.inl rfl) .n rfl Oa)
               . obtain ⟨co,haA,ho⟩:=bnd ho;refine run 2 ?_;refine gcx co [0,3,4,18,24] [0] (λt=>(.normal,λ_=>([(213,vB t)],[]))) ?_ λ_=>?_
                 . have ho:=haA;refine wbr ho (λhaB ho=>?_) λhaB ho=>?_
                   . exact lv [] [0] ho
                   . exact lv [] [0] ho
                 . refine gct ho (λhaC ho=>?_) λhaC ho=>?_
                   . obtain ⟨yr,haD,ho⟩:=bnd ho;refine gcm [0] [] (hrec haD a) ?_;intro gA;show zr ..;cases ho; exact zfp (za7 [0] [] (.inl rfl) .n rfl Oa)
                   . cases ho; exact zgt (za7 [0] [] (.inl rfl) .n rfl Oa)
theorem zcj {k:Nat} {a d f e c out} (ho:zu k a d f e c=Ob out) (b:zb):zh1 ktab 169 [.raw b,.val (zi .i64) d,.val (zi .i64) f,.val (zi .i64) e,.val (rFn ktab (Trip×Trip) Int (λx=>[.val z8 x.1,.val z8 x.2]) (λy=>[.val (zi .i64) y])) c] [(b,.row z8 a)] [] (λγ=>[(b,.row z8 out)]):=by
 induction k generalizing a d f e c out b with
 | zero=>cases ho
 | succ k ih=>exact zdj (λh b=>ih h b) ho b
theorem zel {c e d out} (ho:za4 c e d=Ob out) (a:zb):zh1 ktab 142 [.raw a,.val (zi .i64) e,.val (rFn ktab (Trip×Trip) Int (λx=>[.val z8 x.1,.val z8 x.2]) (λy=>[.val (zi .i64) y])) d] [(a,.row z8 c)] [] (λγ=>[(a,.row z8 out)]):=by
 refine zeT (F:=Tryz.f142) Om Om Om (λC=>?_);delta za4 at ho;obtain ⟨ta,ha,ho⟩:=bnd ho;refine glp ha [0,1,2,6] [] [0] (λs g=>([(7,vI s.1),(8,vI s.2.1)],[(a,.row z8 s.2.2)])) (λb=>(.exit 0,λg=>([(7,vI b.1)],[(a,.row z8 b.2)]))) [] (λs7 g8 _ ho=>?_) λga=>?_
 . refine gct ho (λhq9 ho=>?_) λhq9 ho=>?_
   . obtain ⟨ya,hc,ho⟩:=bnd ho;refine gcm [0] [] (zbM hc a) ?_;intro gb;show zr ..;exact lv [] [0] ho
   . exact lv [] [0] ho
 . obtain ⟨yb,hd,ho⟩:=bnd ho;refine gcm [0] [] (zbM hd a) ?_;intro gc;show zr ..;obtain ⟨tb,he,ho⟩:=bnd ho;refine glp he [0,1,2] [] [0] (λs g=>([(6,vI s.1)],[(a,.row z8 s.2)])) (λb=>(.exit 2,λg=>([],[(a,.row z8 b)]))) [] (λsa gd _ ho=>?_) λge=>?_
   . refine gct ho (λhf ho=>?_) λhf ho=>?_
     . obtain ⟨tc,hg,ho⟩:=bnd ho;refine glp hg [0,1,2,6] [] [0] (λs g=>([(7,vI s.1),(8,vI s.2.1)],[(a,.row z8 s.2.2)])) (λb=>(.exit 4,λg=>([(7,vI b.1)],[(a,.row z8 b.2)]))) [] (λsb gf _ ho=>?_) λgg=>?_
       . refine gct ho (λhh ho=>?_) λhh ho=>?_
         . obtain ⟨yc,hi,ho⟩:=bnd ho;refine gcm [0] [] (zcj hi a) ?_;intro gh;show zr ..;exact lv [] [0] ho
         . exact lv [] [0] ho
       . refine gct ho (λhj ho=>?_) λhj ho=>?_
         . obtain ⟨yd,hk,ho⟩:=bnd ho;refine gcm [0] [] (zcj hk a) ?_;intro gi;show zr ..;exact lv [] [0] ho
         . exact lv [] [0] ho
     . exact lv [] [0] ho
   . cases ho; exact id (za7 [0] [] (.inl rfl) .n rfl Oa)
theorem zc3 {c a out} (ho:zY c a=Ob out) (b:zb):zh1 ktab 100 [.raw b,.val (rFn ktab (Trip×Trip) Int (λx=>[.val z8 x.1,.val z8 x.2]) (λy=>[.val (zi .i64) y])) a] [(b,.row z8 c)] [] (λγ=>[(b,.row z8 out)]):=by
 refine zeT (F:=Tryz.f100) Om Om Om (λC=>?_);delta zY at ho;obtain ⟨y1,hy1,ho⟩:=bnd ho;refine gcm [0] [] (zel hy1 b) ?_;intro g2;show zr ..;cases ho; exact zfp (za7 [0] [] (.inl rfl) .n rfl Oa)
instance i44 {a l_1}:FI ktab 44 (zbX a l_1) [.val (rFn ktab (Trip×Trip) Int (λx=>[.val z8 x.1,.val z8 x.2]) (λy=>[.val (zi .i64) y])) a,.val (ze (ze z8)) l_1] (λout=>[.row z8 out]):=⟨λout ho=>by
 delta zbX at ho;refine fn λ_ _=>?_;refine gnr z8 ?_;refine gcl ho λy1 hy1 ho=>?_;intro v2;show zr ..;obtain ⟨y3,hy3,ho⟩:=bnd ho;refine gcm [0] [1] (zc3 hy3 v2) ?_;intro g4;exact we ho⟩
instance i46 {a y_1}:FI ktab 46 (zeY a y_1) [vI a,vI y_1] (λout=>[wI out]):=fw
instance i45 {a b_1}:FI ktab 45 (zc0 a b_1) [.val z8 a,.val z8 b_1] (λout=>[wI out]):=fw
instance i12 {e j i d until_4}:FI ktab 12 (zc1 e j i d until_4) [.val zbI e,.val zd6 j,.val (ze zc6) i,vI d,vI until_4] (λout=>[.row z8 out.1,wI out.2]):=⟨λout ho=>by
 delta zc1 at ho;refine fn λ_ _=>?_;refine gnr z8 ?_;refine gcl ho λy1 hy1 ho=>?_;obtain ⟨c7,hc7,ho⟩:=bnd ho;refine run 8 ?_;refine gcx c7 [3,6,7,9,12] [0] (λt=>(.normal,λ_=>([(45,vB t)],[]))) ?_ λ_=>?_
 . have ho:=hc7;refine wbr ho (λhb8 ho=>?_) λhb8 ho=>?_
   . exact lv [] [0] ho
   . refine gcl ho λy9 hy9 ho=>?_;refine wbr ho (λhc ho=>?_) λhc ho=>?_
     . exact lv [] [0] ho
     . refine gcl ho λya hp ho=>?_;refine wbr ho (λhd ho=>?_) λhd ho=>?_
       . exact lv [] [0] ho
       . exact lv [] [0] ho
 . refine gct ho (λhe ho=>?_) λhe ho=>?_
   . refine gnr z8 ?_;exact we ho
   . refine gnr (ze z8) ?_;obtain ⟨tb,hg,ho⟩:=bnd ho;refine glp hg [3,6,7,9,46,47] [] [0] (λs g=>([(14,.raw (gh g 0)),(48,vI s.2)],[(gh g 0,.row (ze z8) s.1)])) (λb=>(.exit 0,λg=>([(14,.raw (gh g 0))],[(gh g 0,.row (ze z8) b)]))) [.nsz] (λsb gb _ ho=>?_) λge=>?_
     . refine gct ho (λhh ho=>?_) λhh ho=>?_
       . obtain ⟨xa,hr,ho⟩:=bnd ho;refine gal λbb=>?_;refine gal λbc=>?_;refine run 1 ?_;refine zem (zdH (R:=zi .i64) (a:=sb.2) 1 [15] (zm rfl) rfl rfl ⟨rfl,trivial⟩) ?_;refine run 1 ?_;refine zem (zdH (R:=zaO zk) (a:=xa) 0 [16] (zm rfl) rfl rfl ⟨rfl,trivial⟩) ?_;obtain ⟨tc,hi,ho⟩:=bnd ho;refine glp hi [3,6,7,9,15,16,46,47,48] [] [0] (λs g=>([(14,.raw (gh g 0)),(53,vI s.2)],[(gh g 0,.row (ze z8) s.1)])) (λb=>(.exit 2,λg=>([(14,.raw (gh g 0))],[(gh g 0,.row (ze z8) b)]))) [gh gb 0] (λsa ga _ ho=>?_) λgd=>?_
         . refine gct ho (λhj ho=>?_) λhj ho=>?_
           . refine gal λbd=>?_;refine run 1 ?_;refine zem (zdH (R:=zi .i64) (a:=sa.2) 0 [17] (zm rfl) rfl rfl ⟨rfl,trivial⟩) ?_;refine run 3 ?_;refine zem (zdT z8) ?_;refine gal λba=>?_;obtain ⟨xb,hs,xd,ht,ho⟩:=zge ho;refine gcl ho λyb hu ho=>?_;obtain ⟨ta,ha,ho⟩:=bnd ho;refine run 2 ?_;refine zo7 (σ:=List Trip) (τ:=List Trip) (X:=(Int×Int)) (ins:=(λx=>[.val (zi .i64) x.1,.val (zi .i64) x.2])) (zAK (λs g=>[(.ptr ba 0,.box [.raw (gh g 0)]),(gh ga 0,.row (ze z8) sa.1),(gh g 0,.row z8 s)]) (λt g=>[(.ptr ba 0,.box [.raw (gh g 0)]),(gh ga 0,.row (ze z8) sa.1),(gh g 0,.row z8 t)])) (λ_=>Ob 4) (s0:=[]) (r:=ta) [.nsz] [0,2,1] [] rfl (.t rfl) rfl rfl Oa (λ_=>rfl) (λyv K hcb γ=>zeG hcb ha γ) ?_ ?_
             . clear ho ha;intro sc gc xe r193 ho C;refine run 6 ?_;refine zfp (λfr h s=>And.intro rfl (Exists.intro _ (Exists.intro _ (And.intro s (λC=>?_)))));refine gcl ho λyc hv ho=>?_;refine gct ho (λhk ho=>?_) λhk ho=>?_
               . cases ho; exact zp0 (λfr h s=>And.intro rfl (Exists.intro [gh gc 0] (s.pick [0,1,2] trivial rfl Oa)))
               . refine gcl ho λyd hw ho=>?_;refine gct ho (λhl ho=>?_) λhl ho=>?_
                 . obtain ⟨xf,hy,ho⟩:=bnd ho;refine gap λva=>?_;refine zdU 1 0 (U36).sz rfl rfl Og (.n rfl) rfl rfl (.t rfl) (.t rfl) Om ?_;cases ho; exact zfp (λfr h s=>And.intro rfl (Exists.intro [va] (s.pick [1,2,0] trivial rfl Oa)))
                 . cases ho; exact zgt (λfr h s=>And.intro rfl (Exists.intro [gh gc 0] (s.pick [0,1,2] trivial rfl Oa)))
             . clear ha;rcases ta with be | bf
               . have ho:=zxg ho;intro gf;refine gwk [3,6,7,9,14,15,16,17,18,46,47,48,53,54,55,56,57,58,59,60,61,62,63,64,65,66,67,68,69] [0,1,2] ?_;refine run 3 ?_;refine zem (zeS 2 0 (q:=0) [94] rfl rfl rfl rfl Om ⟨rfl,trivial⟩) ?_;obtain ⟨xg,hz,ho⟩:=bnd ho;refine gap λvb=>?_;exact lv [vb] [0] ho
               . have ho:=zxh ho;intro gg;refine gwk [3,6,7,9,14,15,16,17,18,46,47,48,53,54,55,56,57,58,59,60,61,62,63,64,65,66,67,68,69] [0,1,2] ?_;refine run 3 ?_;refine zem (zeS 2 0 (q:=0) [94] rfl rfl rfl rfl Om ⟨rfl,trivial⟩) ?_;obtain ⟨xh,hA,ho⟩:=bnd ho;refine gap λvc=>?_;exact lv [vc] [0] ho
           . exact lv [gh ga 0] [0] ho
         . exact lv [gh gd 0] [0] ho
       . exact lv [gh gb 0] [0] ho
     . obtain ⟨ye,hm,ho⟩:=bnd ho;refine run 3 ?_;refine zhj (i44.ok _ hm) (.r (zcD zdI (zcD zgs (zcD zdI (zcD zdI zhi)))) .n) rfl (.n rfl) rfl rfl rfl .f (.c (.o (.fv (zhN (λx y hf=>i45.ok _ hf) rfl))) (.c (.r 0 (.t rfl) rfl) .n)) ?_;intro vd;show zr ..;refine gct ho (λhn ho=>?_) λhn ho=>?_
       . refine gnr z8 ?_;exact we ho
       . exact we ho⟩
instance i80 {a s_1}:FI ktab 80 (zeC a s_1) [.val zbI a,.val zd6 s_1] (λout=>[wI out]):=fw
instance i167 {a f_1}:FI ktab 167 (zad a f_1) [.val (ze za5) a,.val (rFn ktab Turnback Bool (λx=>[.val za5 x]) (λy=>[.val zaS y])) f_1] (λout=>[wI out]):=⟨λout ho=>by
 delta zad at ho;refine fn λ_ _=>?_;obtain ⟨ta,ha,ho⟩:=bnd ho;refine gl2 ha ho [0,1,7] [] [] (λs g=>([(8,vI s)],[])) (λb=>(.exit 0,λg=>([],[]))) (λb=>(.ret,λg=>([(4,vI b)],[]))) [] (λs5 g6 _ ho=>?_) (λba ho ga=>?_) λbb ho ga=>?_
 . refine gct ho (λhq7 ho=>?_) λhq7 ho=>?_
   . obtain ⟨x8,hx8,y9,hy9,ho⟩:=zge ho;refine gcv hy9 ?_;exact we ho
   . exact lv [] [] ho
 . exact we ho
 . exact rv ho⟩
instance i134 {a f_1}:FI ktab 134 (zas a f_1) [.val (ze za5) a,.val (rFn ktab Turnback Bool (λx=>[.val za5 x]) (λy=>[.val zaS y])) f_1] (λout=>[wB out]):=fw
instance i35 {b a high_2}:FI ktab 35 (zbE b a high_2) [vI b,vI a,vI high_2] (λout=>[wB out]):=⟨λout ho=>by
 delta zbE at ho;refine fn λ_ _=>?_;obtain ⟨c4,hc4,ho⟩:=bnd ho;refine run 5 ?_;refine gcx c4 [] [] (λt=>(.normal,λ_=>([(6,vB t)],[]))) ?_ λ_=>?_
 . exact we hc4
 . exact rv ho⟩
instance i85 {c_0}:FI ktab 85 (zaE c_0) [.val zE c_0] (λout=>[wI out]):=fw
instance i136 {home_0}:FI ktab 136 (zdz home_0) [vB home_0] (λout=>[wI out]):=fw
end Go.Ai.TabYtfamdelkpempgaaGreat