/- Written by program: walks through functions. -/
import Derived.Test.YtppebpagcocogaaGreatU11
import Derived.Test.YtppebpagcocogaaGreatU20
import Derived.Test.YtppebpagcocogaaGreatU22
import Derived.Test.YtppebpagcocogaaGreatU19
import Derived.Test.YtppebpagcocogaaGreatU17
import Derived.Test.YtppebpagcocogaaGreatU16
set_option linter.unusedSimpArgs false
set_option linter.unusedVariables false
set_option linter.unusedSectionVars false
namespace Go.Ai.TabYtppebpagcocogaaGreat
open Go Go.Ai Go.Ai.Sx Go.Proofs
attribute [local irreducible] zo
set_option maxRecDepth 100000
set_option maxHeartbeats 4000000
theorem zcM {rec:(List Trip)->Int->Int->Int->((Trip×Trip)->Option (Int))->Option (List Trip)} (hrec:∀ {data_0 a_1 m_2 b_3 cmp_4} {out:(List Trip)},rec data_0 a_1 m_2 b_3 cmp_4=some out->∀ (v_0:zd),zhM ktab 169 [.raw v_0,.val (zj .i64) a_1,.val (zj .i64) m_2,.val (zj .i64) b_3,.val (rFn ktab (Trip×Trip) (Int) (λx=>[.val z7 (x.1),.val z7 (x.2)]) (λy=>[.val (zj .i64) (y)])) cmp_4] [(v_0,.row z7 (data_0))] [] (λγ=>[(v_0,.row z7 (out))])) {data_0:(List Trip)} {a_1:Int} {m_2:Int} {b_3:Int} {cmp_4:((Trip×Trip)->Option (Int))} {out:(List Trip)} (ho:zm rec data_0 a_1 m_2 b_3 cmp_4=some out) (v_0:zd):zhM ktab 169 [.raw v_0,.val (zj .i64) a_1,.val (zj .i64) m_2,.val (zj .i64) b_3,.val (rFn ktab (Trip×Trip) (Int) (λx=>[.val z7 (x.1),.val z7 (x.2)]) (λy=>[.val (zj .i64) (y)])) cmp_4] [(v_0,.row z7 (data_0))] [] (λγ=>[(v_0,.row z7 (out))]):=by
 refine zeK (F:=Tryz.f169) (by rfl) (by rfl) (by rfl) (λC=>?_);delta zm at ho;refine gct ho (λhq1 ho=>?_) λhq1 ho=>?_
 . obtain ⟨ta,ha,ho⟩:=bnd ho;refine glp ha [0,1,4] [0] [0] (λs g=>([(10,vI s.1),(11,vI s.2)],[])) (λb=>(.exit 0,λg=>([(10,vI b)],[]))) [] (λsa ga _ ho=>?_) λgb=>?_
   . refine gct ho (λhc ho=>?_) λhc ho=>?_
     . obtain ⟨xa,haE,ho⟩:=bnd ho;refine run 13 ?_;refine zaA [4,8] (by kernel_rfl) ?_;obtain ⟨xb,haF,xd,haG,ya,hd,ho⟩:=zpT ho;refine gcv hd ?_;refine gct ho (λhe ho=>?_) λhe ho=>?_
       . exact lv [] [0] ho
       . exact lv [] [0] ho
     . exact lv [] [0] ho
   . obtain ⟨tb,hf,ho⟩:=bnd ho;refine glp hf [0,10] [] [0] (λs g=>([(13,vI s.1)],[(v_0,.row z7 s.2)])) (λb=>(.exit 2,λg=>([],[(v_0,.row z7 b)]))) [] (λsb gc _ ho=>?_) λgd=>?_
     . refine gct ho (λhg ho=>?_) λhg ho=>?_
       . refine run 3 ?_;refine zaA [9,13] (by kernel_rfl) ?_;obtain ⟨xe,haH,xf,haI,ho⟩:=zfP ho;refine run 14 ?_;obtain ⟨xg,haJ,xh,haK,ho⟩:=zfP ho;exact lv [] [0] ho
       . exact lv [] [0] ho
     . cases ho; exact zeQ (za1 [0] [] (.inr rfl) .n rfl (by decide))
 . refine gct ho (λhh ho=>?_) λhh ho=>?_
   . obtain ⟨tc,hi,ho⟩:=bnd ho;refine glp hi [0,2,4] [0] [0] (λs g=>([(14,vI s.1),(15,vI s.2)],[])) (λb=>(.exit 4,λg=>([(14,vI b)],[]))) [] (λsc ge _ ho=>?_) λgf=>?_
     . refine gct ho (λhj ho=>?_) λhj ho=>?_
       . obtain ⟨xi,haL,ho⟩:=bnd ho;refine run 13 ?_;refine zaA [4,8] (by kernel_rfl) ?_;obtain ⟨xj,haM,xk,haN,yb,hk,ho⟩:=zpT ho;refine gcv hk ?_;refine gct ho (λhl ho=>?_) λhl ho=>?_
         . exact lv [] [0] ho
         . exact lv [] [0] ho
       . exact lv [] [0] ho
     . obtain ⟨td,hm,ho⟩:=bnd ho;refine glp hm [0,14] [] [0] (λs g=>([(17,vI s.1)],[(v_0,.row z7 s.2)])) (λb=>(.exit 6,λg=>([],[(v_0,.row z7 b)]))) [] (λsd gg _ ho=>?_) λgh=>?_
       . refine gct ho (λhn ho=>?_) λhn ho=>?_
         . refine run 3 ?_;refine zaA [9,13] (by kernel_rfl) ?_;obtain ⟨xl,haO,xm,haP,ho⟩:=zfP ho;refine run 14 ?_;obtain ⟨xn,haQ,xo,haR,ho⟩:=zfP ho;exact lv [] [0] ho
         . exact lv [] [0] ho
       . cases ho; exact zeQ (za1 [0] [] (.inr rfl) .n rfl (by decide))
   . obtain ⟨xp,haS,ho⟩:=bnd ho;refine gct ho (λhp ho=>?_) λhp ho=>?_
     . obtain ⟨te,hr,ho⟩:=bnd ho;refine glp hr [0,1,2,3,4,18,19,22] [0] [0] (λs g=>([(20,vI s.1),(21,vI s.2)],[])) (λb=>(.exit 8,λg=>([(20,vI b)],[]))) [] (λse gi _ ho=>?_) λgj=>?_
       . refine gct ho (λhs ho=>?_) λhs ho=>?_
         . obtain ⟨xq,haT,ho⟩:=bnd ho;refine run 13 ?_;refine zaA [6,10] (by kernel_rfl) ?_;obtain ⟨xr,haU,xt,haV,yc,ht,ho⟩:=zpT ho;refine gcv ht ?_;refine gct ho (λhu ho=>?_) λhu ho=>?_
           . exact lv [] [0] ho
           . exact lv [] [0] ho
         . exact lv [] [0] ho
       . obtain ⟨ca,hv,ho⟩:=bnd ho;refine run 9 ?_;refine gcx ca [0,1,2,3,4,18,20,24] [0] (λt=>(.normal,λ_=>([(185,vB t)],[]))) ?_ λ_=>?_
         . have ho:=hv;refine wbr ho (λhw ho=>?_) λhw ho=>?_
           . exact lv [] [0] ho
           . exact lv [] [0] ho
         . refine gct ho (λhy ho=>?_) λhy ho=>?_
           . obtain ⟨yd,hz,ho⟩:=bnd ho;refine gcm [0] [] (zb3 hz v_0) ?_;intro gk;show zo ..;obtain ⟨cc,hA,ho⟩:=bnd ho;refine run 3 ?_;refine gcx cc [0,1,3,4,18,20,24] [0] (λt=>(.normal,λ_=>([(199,vB t)],[]))) ?_ λ_=>?_
             . have ho:=hA;refine wbr ho (λhB ho=>?_) λhB ho=>?_
               . exact lv [] [0] ho
               . exact lv [] [0] ho
             . refine gct ho (λhC ho=>?_) λhC ho=>?_
               . obtain ⟨ye,hD,ho⟩:=bnd ho;refine gcm [0] [] (hrec hD v_0) ?_;intro gl;show zo ..;obtain ⟨cd,hE,ho⟩:=bnd ho;refine run 2 ?_;refine gcx cd [0,3,4,18,24] [0] (λt=>(.normal,λ_=>([(213,vB t)],[]))) ?_ λ_=>?_
                 . have ho:=hE;refine wbr ho (λhF ho=>?_) λhF ho=>?_
                   . exact lv [] [0] ho
                   . exact lv [] [0] ho
                 . refine gct ho (λhG ho=>?_) λhG ho=>?_
                   . obtain ⟨yf,hH,ho⟩:=bnd ho;refine gcm [0] [] (hrec hH v_0) ?_;intro gm;show zo ..;cases ho; exact zfa (za1 [0] [] (.inl rfl) .n rfl (by decide))
                   . cases ho; exact zfL (za1 [0] [] (.inl rfl) .n rfl (by decide))
               . obtain ⟨ce,hI,ho⟩:=bnd ho;refine run 2 ?_;refine gcx ce [0,3,4,18,24] [0] (λt=>(.normal,λ_=>([(213,vB t)],[]))) ?_ λ_=>?_
                 . have ho:=hI;refine wbr ho (λhJ ho=>?_) λhJ ho=>?_
                   . exact lv [] [0] ho
                   . exact lv [] [0] ho
                 . refine gct ho (λhK ho=>?_) λhK ho=>?_
                   . obtain ⟨yg,hL,ho⟩:=bnd ho;refine gcm [0] [] (hrec hL v_0) ?_;intro gn;show zo ..;cases ho; exact zfa (za1 [0] [] (.inl rfl) .n rfl (by decide))
                   . cases ho; exact zfL (za1 [0] [] (.inl rfl) .n rfl (by decide))
           . obtain ⟨cf,hM,ho⟩:=bnd ho;refine run 3 ?_;refine gcx cf [0,1,3,4,18,20,24] [0] (λt=>(.normal,λ_=>([(199,vB t)],[]))) ?_ λ_=>?_
             . have ho:=hM;refine wbr ho (λhN ho=>?_) λhN ho=>?_
               . exact lv [] [0] ho
               . exact lv [] [0] ho
             . refine gct ho (λhO ho=>?_) λhO ho=>?_
               . obtain ⟨yh,hP,ho⟩:=bnd ho;refine gcm [0] [] (hrec hP v_0) ?_;intro gp;show zo ..;obtain ⟨cg,hQ,ho⟩:=bnd ho;refine run 2 ?_;refine gcx cg [0,3,4,18,24] [0] (λt=>(.normal,λ_=>([(213,vB t)],[]))) ?_ λ_=>?_
                 . have ho:=hQ;refine wbr ho (λhR ho=>?_) λhR ho=>?_
                   . exact lv [] [0] ho
                   . exact lv [] [0] ho
                 . refine gct ho (λhS ho=>?_) λhS ho=>?_
                   . obtain ⟨yi,hT,ho⟩:=bnd ho;refine gcm [0] [] (hrec hT v_0) ?_;intro gq;show zo ..;cases ho; exact zfa (za1 [0] [] (.inl rfl) .n rfl (by decide))
                   . cases ho; exact zfL (za1 [0] [] (.inl rfl) .n rfl (by decide))
               . obtain ⟨ch,hU,ho⟩:=bnd ho;refine run 2 ?_;refine gcx ch [0,3,4,18,24] [0] (λt=>(.normal,λ_=>([(213,vB t)],[]))) ?_ λ_=>?_
                 . have ho:=hU;refine wbr ho (λhV ho=>?_) λhV ho=>?_
                   . exact lv [] [0] ho
                   . exact lv [] [0] ho
                 . refine gct ho (λhW ho=>?_) λhW ho=>?_
                   . obtain ⟨yj,hX,ho⟩:=bnd ho;refine gcm [0] [] (hrec hX v_0) ?_;intro gr;show zo ..;cases ho; exact zfa (za1 [0] [] (.inl rfl) .n rfl (by decide))
                   . cases ho; exact zfL (za1 [0] [] (.inl rfl) .n rfl (by decide))
     . obtain ⟨tf,hY,ho⟩:=bnd ho;refine glp hY [0,1,2,3,4,18,19,22] [0] [0] (λs g=>([(20,vI s.1),(21,vI s.2)],[])) (λb=>(.exit 8,λg=>([(20,vI b)],[]))) [] (λsf gs _ ho=>?_) λgt=>?_
       . refine gct ho (λhZ ho=>?_) λhZ ho=>?_
         . obtain ⟨xu,haW,ho⟩:=bnd ho;refine run 13 ?_;refine zaA [6,10] (by kernel_rfl) ?_;obtain ⟨xv,haX,xw,haY,yk,haa,ho⟩:=zpT ho;refine gcv haa ?_;refine gct ho (λhab ho=>?_) λhab ho=>?_
           . exact lv [] [0] ho
           . exact lv [] [0] ho
         . exact lv [] [0] ho
       . obtain ⟨ci,hac,ho⟩:=bnd ho;refine run 9 ?_;refine gcx ci [0,1,2,3,4,18,20,24] [0] (λt=>(.normal,λ_=>([(185,vB t)],[]))) ?_ λ_=>?_
         . have ho:=hac;refine wbr ho (λhad ho=>?_) λhad ho=>?_
           . exact lv [] [0] ho
           . exact lv [] [0] ho
         . refine gct ho (λhae ho=>?_) λhae ho=>?_
           . obtain ⟨yl,haf,ho⟩:=bnd ho;refine gcm [0] [] (zb3 haf v_0) ?_;intro gu;show zo ..;obtain ⟨cj,hag,ho⟩:=bnd ho;refine run 3 ?_;refine gcx cj [0,1,3,4,18,20,24] [0] (λt=>(.normal,λ_=>([(199,vB t)],[]))) ?_ λ_=>?_
             . have ho:=hag;refine wbr ho (λhah ho=>?_) λhah ho=>?_
               . exact lv [] [0] ho
               . exact lv [] [0] ho
             . refine gct ho (λhai ho=>?_) λhai ho=>?_
               . obtain ⟨ym,haj,ho⟩:=bnd ho;refine gcm [0] [] (hrec haj v_0) ?_;intro gv;show zo ..;obtain ⟨ck,hak,ho⟩:=bnd ho;refine run 2 ?_;refine gcx ck [0,3,4,18,24] [0] (λt=>(.normal,λ_=>([(213,vB t)],[]))) ?_ λ_=>?_
                 . have ho:=hak;refine wbr ho (λhal ho=>?_) λhal ho=>?_
                   . exact lv [] [0] ho
                   . exact lv [] [0] ho
                 . refine gct ho (λham ho=>?_) λham ho=>?_
                   . obtain ⟨yn,han,ho⟩:=bnd ho;refine gcm [0] [] (hrec han v_0) ?_;intro gw;show zo ..;cases ho; exact zfa (za1 [0] [] (.inl rfl) .n rfl (by decide))
                   . cases ho; exact zfL (za1 [0] [] (.inl rfl) .n rfl (by decide))
               . obtain ⟨cl,hao,ho⟩:=bnd ho;refine run 2 ?_;refine gcx cl [0,3,4,18,24] [0] (λt=>(.normal,λ_=>([(213,vB t)],[]))) ?_ λ_=>?_
                 . have ho:=hao;refine wbr ho (λhap ho=>?_) λhap ho=>?_
                   . exact lv [] [0] ho
                   . exact lv [] [0] ho
                 . refine gct ho (λhaq ho=>?_) λhaq ho=>?_
                   . obtain ⟨yo,har,ho⟩:=bnd ho;refine gcm [0] [] (hrec har v_0) ?_;intro gx;show zo ..;cases ho; exact zfa (za1 [0] [] (.inl rfl) .n rfl (by decide))
                   . cases ho; exact zfL (za1 [0] [] (.inl rfl) .n rfl (by decide))
           . obtain ⟨cm,has,ho⟩:=bnd ho;refine run 3 ?_;refine gcx cm [0,1,3,4,18,20,24] [0] (λt=>(.normal,λ_=>([(199,vB t)],[]))) ?_ λ_=>?_
             . have ho:=has;refine wbr ho (λhat ho=>?_) λhat ho=>?_
               . exact lv [] [0] ho
               . exact lv [] [0] ho
             . refine gct ho (λhau ho=>?_) λhau ho=>?_
               . obtain ⟨yp,hav,ho⟩:=bnd ho;refine gcm [0] [] (hrec hav v_0) ?_;intro gy;show zo ..;obtain ⟨cn,haw,ho⟩:=bnd ho;refine run 2 ?_;refine gcx cn [0,3,4,18,24] [0] (λt=>(.normal,λ_=>([(213,vB t)],[]))) ?_ λ_=>?_
                 . have ho:=haw;refine wbr ho (λhax ho=>?_) λhax ho=>?_
                   . exact lv [] [0] ho
                   . exact lv [] [0] ho
                 . refine gct ho (λhay ho=>?_) λhay ho=>?_
                   . obtain ⟨yq,haz,ho⟩:=bnd ho;refine gcm [0] [] (hrec haz v_0) ?_;intro gz;show zo ..;cases ho; exact zfa (za1 [0] [] (.inl rfl) .n rfl (by decide))
                   . cases ho; exact zfL (za1 [0] [] (.inl rfl) .n rfl (by decide))
               . obtain ⟨co,haA,ho⟩:=bnd ho;refine run 2 ?_;refine gcx co [0,3,4,18,24] [0] (λt=>(.normal,λ_=>([(213,vB t)],[]))) ?_ λ_=>?_
                 . have ho:=haA;refine wbr ho (λhaB ho=>?_) λhaB ho=>?_
                   . exact lv [] [0] ho
                   . exact lv [] [0] ho
                 . refine gct ho (λhaC ho=>?_) λhaC ho=>?_
                   . obtain ⟨yr,haD,ho⟩:=bnd ho;refine gcm [0] [] (hrec haD v_0) ?_;intro gA;show zo ..;cases ho; exact zfa (za1 [0] [] (.inl rfl) .n rfl (by decide))
                   . cases ho; exact zfL (za1 [0] [] (.inl rfl) .n rfl (by decide))
theorem zbU {k:Nat} {data_0 a_1 m_2 b_3 cmp_4 out} (ho:zp k data_0 a_1 m_2 b_3 cmp_4=some out) (v_0:zd):zhM ktab 169 [.raw v_0,.val (zj .i64) a_1,.val (zj .i64) m_2,.val (zj .i64) b_3,.val (rFn ktab (Trip×Trip) (Int) (λx=>[.val z7 (x.1),.val z7 (x.2)]) (λy=>[.val (zj .i64) (y)])) cmp_4] [(v_0,.row z7 (data_0))] [] (λγ=>[(v_0,.row z7 (out))]):=by
 induction k generalizing data_0 a_1 m_2 b_3 cmp_4 out v_0 with
 | zero=>cases ho
 | succ k ih=>exact zcM (λh v_0=>ih h v_0) ho v_0
theorem zdJ {data_0 n_1 cmp_2 out} (ho:zaP data_0 n_1 cmp_2=some out) (v_0:zd):zhM ktab 140 [.raw v_0,.val (zj .i64) n_1,.val (rFn ktab (Trip×Trip) (Int) (λx=>[.val z7 (x.1),.val z7 (x.2)]) (λy=>[.val (zj .i64) (y)])) cmp_2] [(v_0,.row z7 (data_0))] [] (λγ=>[(v_0,.row z7 (out))]):=by
 refine zeK (F:=Tryz.f140) (by rfl) (by rfl) (by rfl) (λC=>?_);delta zaP at ho;obtain ⟨ta,ha,ho⟩:=bnd ho;refine glp ha [0,1,2,6] [] [0] (λs g=>([(7,vI s.1),(8,vI s.2.1)],[(v_0,.row z7 s.2.2)])) (λb=>(.exit 0,λg=>([(7,vI b.1)],[(v_0,.row z7 b.2)]))) [] (λs7 g8 _ ho=>?_) λga=>?_
 . refine gct ho (λhq9 ho=>?_) λhq9 ho=>?_
   . obtain ⟨ya,hc,ho⟩:=bnd ho;refine gcm [0] [] (zbp hc v_0) ?_;intro gb;show zo ..;exact lv [] [0] ho
   . exact lv [] [0] ho
 . obtain ⟨yb,hd,ho⟩:=bnd ho;refine gcm [0] [] (zbp hd v_0) ?_;intro gc;show zo ..;obtain ⟨tb,he,ho⟩:=bnd ho;refine glp he [0,1,2] [] [0] (λs g=>([(6,vI s.1)],[(v_0,.row z7 s.2)])) (λb=>(.exit 2,λg=>([],[(v_0,.row z7 b)]))) [] (λsa gd _ ho=>?_) λge=>?_
   . refine gct ho (λhf ho=>?_) λhf ho=>?_
     . obtain ⟨tc,hg,ho⟩:=bnd ho;refine glp hg [0,1,2,6] [] [0] (λs g=>([(7,vI s.1),(8,vI s.2.1)],[(v_0,.row z7 s.2.2)])) (λb=>(.exit 4,λg=>([(7,vI b.1)],[(v_0,.row z7 b.2)]))) [] (λsb gf _ ho=>?_) λgg=>?_
       . refine gct ho (λhh ho=>?_) λhh ho=>?_
         . obtain ⟨yc,hi,ho⟩:=bnd ho;refine gcm [0] [] (zbU hi v_0) ?_;intro gh;show zo ..;exact lv [] [0] ho
         . exact lv [] [0] ho
       . refine gct ho (λhj ho=>?_) λhj ho=>?_
         . obtain ⟨yd,hk,ho⟩:=bnd ho;refine gcm [0] [] (zbU hk v_0) ?_;intro gi;show zo ..;exact lv [] [0] ho
         . exact lv [] [0] ho
     . exact lv [] [0] ho
   . cases ho; exact id (za1 [0] [] (.inl rfl) .n rfl (by decide))
theorem zcw {x_0 cmp_1 out} (ho:zU x_0 cmp_1=some out) (v_0:zd):zhM ktab 119 [.raw v_0,.val (rFn ktab (Trip×Trip) (Int) (λx=>[.val z7 (x.1),.val z7 (x.2)]) (λy=>[.val (zj .i64) (y)])) cmp_1] [(v_0,.row z7 (x_0))] [] (λγ=>[(v_0,.row z7 (out))]):=by
 refine zeK (F:=Tryz.f119) (by rfl) (by rfl) (by rfl) (λC=>?_);delta zU at ho;obtain ⟨y1,hy1,ho⟩:=bnd ho;refine gcm [0] [] (zdJ hy1 v_0) ?_;intro g2;show zo ..;cases ho; exact zfa (za1 [0] [] (.inl rfl) .n rfl (by decide))
instance i91 {order_0 l_1}:FI ktab 91 (zbC order_0 l_1) [.val (rFn ktab (Trip×Trip) (Int) (λx=>[.val z7 (x.1),.val z7 (x.2)]) (λy=>[.val (zj .i64) (y)])) order_0,.val (zf (zf z7)) l_1] (λout=>[.row z7 out]):=⟨λout ho=>by
 delta zbC at ho;refine fn λ_ _=>?_;refine gnr z7 ?_;refine gcl ho λy1 hy1 ho=>?_;intro v2;show zo ..;obtain ⟨y3,hy3,ho⟩:=bnd ho;refine gcm [0] [1] (zcw hy3 v2) ?_;intro g4;exact we ho⟩
instance i93 {x_0 y_1}:FI ktab 93 (zei x_0 y_1) [vI x_0,vI y_1] (λout=>[wI out]):=fw
instance i92 {a_0 b_1}:FI ktab 92 (zct a_0 b_1) [.val z7 a_0,.val z7 b_1] (λout=>[wI out]):=fw
instance i49 {p_0 s_1 w_2 from_3 until_4}:FI ktab 49 (zc2 p_0 s_1 w_2 from_3 until_4) [.val zbl p_0,.val zdR s_1,.val (zf zd6) w_2,vI from_3,vI until_4] (λout=>[.row z7 out.1,wI out.2]):=⟨λout ho=>by
 delta zc2 at ho;refine fn λ_ _=>?_;refine gnr z7 ?_;refine gcl ho λy1 hy1 ho=>?_;obtain ⟨c7,hc7,ho⟩:=bnd ho;refine run 8 ?_;refine gcx c7 [3,6,7,9,12] [0] (λt=>(.normal,λ_=>([(45,vB t)],[]))) ?_ λ_=>?_
 . have ho:=hc7;refine wbr ho (λhb8 ho=>?_) λhb8 ho=>?_
   . exact lv [] [0] ho
   . refine gcl ho λy9 hy9 ho=>?_;refine wbr ho (λhc ho=>?_) λhc ho=>?_
     . exact lv [] [0] ho
     . refine gcl ho λya hp ho=>?_;refine wbr ho (λhd ho=>?_) λhd ho=>?_
       . exact lv [] [0] ho
       . exact lv [] [0] ho
 . refine gct ho (λhe ho=>?_) λhe ho=>?_
   . refine gnr z7 ?_;exact we ho
   . refine gnr (zf z7) ?_;obtain ⟨tb,hg,ho⟩:=bnd ho;refine glp hg [3,6,7,9,46,47] [] [0] (λs g=>([(14,.raw (gh g 0)),(48,vI s.2)],[((gh g 0),.row (zf z7) s.1)])) (λb=>(.exit 0,λg=>([(14,.raw (gh g 0))],[((gh g 0),.row (zf z7) b)]))) [.nilslice] (λsb gb _ ho=>?_) λge=>?_
     . refine gct ho (λhh ho=>?_) λhh ho=>?_
       . obtain ⟨xa,hr,ho⟩:=bnd ho;refine gal λbb=>?_;refine gal λbc=>?_;refine run 1 ?_;refine zfW (zdB (R:=(zj .i64)) (a:=sb.2) 1 [15] (zE rfl) rfl rfl ⟨rfl,trivial⟩) ?_;refine run 1 ?_;refine zfW (zdB (R:=(zaY zi)) (a:=xa) 0 [16] (zE rfl) rfl rfl ⟨rfl,trivial⟩) ?_;obtain ⟨tc,hi,ho⟩:=bnd ho;refine glp hi [3,6,7,9,15,16,46,47,48] [] [0] (λs g=>([(14,.raw (gh g 0)),(53,vI s.2)],[((gh g 0),.row (zf z7) s.1)])) (λb=>(.exit 2,λg=>([(14,.raw (gh g 0))],[((gh g 0),.row (zf z7) b)]))) [(gh gb 0)] (λsa ga _ ho=>?_) λgd=>?_
         . refine gct ho (λhj ho=>?_) λhj ho=>?_
           . refine gal λbd=>?_;refine run 1 ?_;refine zfW (zdB (R:=(zj .i64)) (a:=sa.2) 0 [17] (zE rfl) rfl rfl ⟨rfl,trivial⟩) ?_;refine run 3 ?_;refine zfW (zes z7) ?_;refine gal λba=>?_;obtain ⟨xb,hs,xd,ht,ho⟩:=zfP ho;refine gcl ho λyb hu ho=>?_;obtain ⟨ta,ha,ho⟩:=bnd ho;refine run 2 ?_;refine zqM (σ:=(List Trip)) (τ:=(List Trip)) (X:=(Int×Int)) (ins:=(λx=>[.val (zj .i64) x.1,.val (zj .i64) x.2])) (zzg (λs g=>[(.ptr ba 0,.box [.raw (gh g 0)]),((gh ga 0),.row (zf z7) sa.1),((gh g 0),.row z7 s)]) (λt g=>[(.ptr ba 0,.box [.raw (gh g 0)]),((gh ga 0),.row (zf z7) sa.1),((gh g 0),.row z7 t)])) (λ_=>some 4) (s0:=[]) (r:=ta) [.nilslice] [0,2,1] [] rfl (.t rfl) rfl rfl (by decide) (λ_=>rfl) (λyv K hcb γ=>zd3 hcb ha γ) ?_ ?_
             . clear ho ha;intro sc gc xe r193 ho C;refine run 6 ?_;refine zfa (λfr h s=>And.intro rfl (Exists.intro _ (Exists.intro _ (And.intro s (λC=>?_)))));refine gcl ho λyc hv ho=>?_;refine gct ho (λhk ho=>?_) λhk ho=>?_
               . cases ho; exact zov (λfr h s=>And.intro rfl (Exists.intro [(gh gc 0)] (s.pick [0,1,2] trivial rfl (by decide))))
               . refine gcl ho λyd hw ho=>?_;refine gct ho (λhl ho=>?_) λhl ho=>?_
                 . obtain ⟨xf,hy,ho⟩:=bnd ho;refine gap λva=>?_;refine zeu 1 0 (U88).sz rfl rfl (by exact Nat.le_of_ble_eq_true rfl) (.n rfl) rfl rfl (.t rfl) (.t rfl) (by rfl) ?_;cases ho; exact zfa (λfr h s=>And.intro rfl (Exists.intro [va] (s.pick [1,2,0] trivial rfl (by decide))))
                 . cases ho; exact zfL (λfr h s=>And.intro rfl (Exists.intro [(gh gc 0)] (s.pick [0,1,2] trivial rfl (by decide))))
             . clear ha;rcases ta with be | bf
               . have ho:=zvi ho;intro gf;refine gwk [3,6,7,9,14,15,16,17,18,46,47,48,53,54,55,56,57,58,59,60,61,62,63,64,65,66,67,68,69] [0,1,2] ?_;refine run 3 ?_;refine zfW (zeZ 2 0 (q:=0) [94] rfl rfl rfl rfl (by rfl) ⟨rfl,trivial⟩) ?_;obtain ⟨xg,hz,ho⟩:=bnd ho;refine gap λvb=>?_;exact lv [vb] [0] ho
               . have ho:=zvj ho;intro gg;refine gwk [3,6,7,9,14,15,16,17,18,46,47,48,53,54,55,56,57,58,59,60,61,62,63,64,65,66,67,68,69] [0,1,2] ?_;refine run 3 ?_;refine zfW (zeZ 2 0 (q:=0) [94] rfl rfl rfl rfl (by rfl) ⟨rfl,trivial⟩) ?_;obtain ⟨xh,hA,ho⟩:=bnd ho;refine gap λvc=>?_;exact lv [vc] [0] ho
           . exact lv [(gh ga 0)] [0] ho
         . exact lv [(gh gd 0)] [0] ho
       . exact lv [(gh gb 0)] [0] ho
     . obtain ⟨ye,hm,ho⟩:=bnd ho;refine run 3 ?_;refine zgv (i91.ok _ hm) (.r (zbZ zcO (zbZ zfK (zbZ zcO (zbZ zcO zgu)))) .n) rfl (.n rfl) rfl rfl rfl .f (.c (.o (.fv (zg4 (λx y hf=>i92.ok _ hf) rfl))) (.c (.r 0 (.t rfl) rfl) .n)) ?_;intro vd;show zo ..;refine gct ho (λhn ho=>?_) λhn ho=>?_
       . refine gnr z7 ?_;exact we ho
       . exact we ho⟩
end Go.Ai.TabYtppebpagcocogaaGreat
/- Written by program: walks through functions. -/
namespace Go.Ai.TabYtppebpagcocogaaGreat
open Go Go.Ai Go.Ai.Sx Go.Proofs
attribute [local irreducible] zo
set_option maxRecDepth 100000
set_option maxHeartbeats 4000000
instance i14 {p_0 s_1 from_2 until_3}:FI ktab 14 (zbN p_0 s_1 from_2 until_3) [.val zbl p_0,.val zdR s_1,vI from_2,vI until_3] (λout=>[wB out]):=⟨λout ho=>by
 delta zbN at ho;refine fn λ_ _=>?_;obtain ⟨c8,hc8,ho⟩:=bnd ho;refine run 8 ?_;refine gcx c8 [2,3,4,5] [] (λt=>(.normal,λ_=>([(52,vB t)],[]))) ?_ λ_=>?_
 . exact we hc8
 . refine gct ho (λha ho=>?_) λha ho=>?_
   . exact we ho
   . obtain ⟨ya,hc,ho⟩:=bnd ho;refine run 7 ?_;refine zgv (i49.ok _ hc) (.r (zbZ zcO (zbZ zfK (zbZ zcO (zbZ zcO zgu)))) (.v zcO .n)) rfl (.n rfl) rfl rfl rfl .f (.c (.o (.t rfl)) (.c (.o (.t rfl)) (.c (.o .nil) (.c (.o (.t rfl)) (.c (.o (.t rfl)) .n))))) ?_;intro va;show zo ..;refine gct ho (λhd ho=>?_) λhd ho=>?_
     . exact we ho
     . obtain ⟨ta,he,ho⟩:=bnd ho;refine gl2 he ho [2,3,4,5] [] [0] (λs g=>([(9,.raw va),(11,vI s)],[(va,.row z7 ya.1)])) (λb=>(.exit 0,λg=>([],[]))) (λb=>(.ret,λg=>([(8,vB b)],[]))) [] (λsa gc _ ho=>?_) (λba ho ga=>?_) λbb ho ga=>?_
       . refine gct ho (λhf ho=>?_) λhf ho=>?_
         . obtain ⟨xa,hJ,ho⟩:=bnd ho;refine gal λbc=>?_;refine gfz 1 zdk xa 0 [12] ?_;obtain ⟨xd,hK,ho⟩:=bnd ho;refine gcl ho λyb hL ho=>?_;refine gcl ho λyc hM ho=>?_;refine gcl ho λyd hN ho=>?_;refine wbr ho (λhg ho=>?_) λhg ho=>?_
           . refine gk ?_;exact we ho
           . refine wbr ho (λhh ho=>?_) λhh ho=>?_
             . refine gk ?_;exact we ho
             . refine wbr ho (λhi ho=>?_) λhi ho=>?_
               . refine gk ?_;exact we ho
               . refine wbr ho (λhj ho=>?_) λhj ho=>?_
                 . refine gk ?_;exact we ho
                 . refine wbr ho (λhk ho=>?_) λhk ho=>?_
                   . refine gk ?_;exact we ho
                   . refine gct ho (λhl ho=>?_) λhl ho=>?_
                     . exact we ho
                     . obtain ⟨xe,hO,ho⟩:=bnd ho;refine gmk λvb=>?_;obtain ⟨xf,hP,ho⟩:=bnd ho;refine gmk λvc=>?_;refine run 5 ?_;obtain ⟨xg,hQ,ho⟩:=bnd ho;refine gmk λvd=>?_;obtain ⟨tb,hm,ho⟩:=bnd ho;refine gl2 hm ho [2,3,4,5,9,11,12,13,15,17,19,20,21,102,103,106,107,110,111,112,115,116,117,120,121] [] [0,1,2,3] (λs g=>([(22,vI s.1)],[(vd,.row zaw s.2.1),(vc,.row zaw s.2.2.1),(vb,.row (zj .i64) s.2.2.2),(va,.row z7 ya.1)])) (λb=>(.exit 2,λg=>([],[(va,.row z7 ya.1)]))) (λb=>(.ret,λg=>([(8,vB b.1)],[]))) [] (λsb gd _ ho=>?_) (λbd ho gb=>?_) λbe ho gb=>?_
                       . refine gct ho (λhn ho=>?_) λhn ho=>?_
                         . obtain ⟨xb,hR,ho⟩:=bnd ho;refine gal λbf=>?_;refine gfz 1 z7 xb 0 [23] ?_;refine gct ho (λhp ho=>?_) λhp ho=>?_
                           . refine wbr ho (λhr ho=>?_) λhr ho=>?_
                             . refine gk ?_;exact we ho
                             . refine gct ho (λhs ho=>?_) λhs ho=>?_
                               . exact we ho
                               . exact lv [] [0,1,2,3] ho
                           . refine run 3 ?_;refine zaA [14,22,31] (by kernel_rfl) ?_;refine wbr ho (λht ho=>?_) λht ho=>?_
                             . refine gk ?_;exact we ho
                             . refine wbr ho (λhu ho=>?_) λhu ho=>?_
                               . refine gk ?_;exact we ho
                               . obtain ⟨xh,hS,ho⟩:=bnd ho;refine wbr ho (λhv ho=>?_) λhv ho=>?_
                                 . obtain ⟨xi,hT,ho⟩:=bnd ho;refine wbr ho (λhw ho=>?_) λhw ho=>?_
                                   . refine gk ?_;exact we ho
                                   . obtain ⟨xj,hU,ho⟩:=bnd ho;refine gct ho (λhy ho=>?_) λhy ho=>?_
                                     . exact we ho
                                     . obtain ⟨xk,hV,xl,hW,xm,hX,ho⟩:=zpT ho;obtain ⟨xn,hY,ho⟩:=bnd ho;refine gct ho (λhz ho=>?_) λhz ho=>?_
                                       . obtain ⟨xo,hZ,xp,haa,ho⟩:=zfP ho;refine wbr ho (λhA ho=>?_) λhA ho=>?_
                                         . refine gk ?_;exact we ho
                                         . obtain ⟨xq,hab,ho⟩:=bnd ho;refine gct ho (λhB ho=>?_) λhB ho=>?_
                                           . exact we ho
                                           . exact lv [] [0,1,2,3] ho
                                       . refine wbr ho (λhC ho=>?_) λhC ho=>?_
                                         . refine gk ?_;exact we ho
                                         . obtain ⟨xr,hac,ho⟩:=bnd ho;refine gct ho (λhD ho=>?_) λhD ho=>?_
                                           . exact we ho
                                           . exact lv [] [0,1,2,3] ho
                                 . refine gk ?_;refine run 11 ?_;obtain ⟨xt,had,xu,hae,xv,haf,ho⟩:=zpT ho;obtain ⟨xw,hag,ho⟩:=bnd ho;refine gct ho (λhE ho=>?_) λhE ho=>?_
                                   . obtain ⟨xx,hah,xy,hai,ho⟩:=zfP ho;refine wbr ho (λhF ho=>?_) λhF ho=>?_
                                     . refine gk ?_;exact we ho
                                     . obtain ⟨xz,haj,ho⟩:=bnd ho;refine gct ho (λhG ho=>?_) λhG ho=>?_
                                       . exact we ho
                                       . exact lv [] [0,1,2,3] ho
                                   . refine wbr ho (λhH ho=>?_) λhH ho=>?_
                                     . refine gk ?_;exact we ho
                                     . obtain ⟨xA,hak,ho⟩:=bnd ho;refine gct ho (λhI ho=>?_) λhI ho=>?_
                                       . exact we ho
                                       . exact lv [] [0,1,2,3] ho
                         . exact lv [] [3] ho
                       . exact lv [] [0] ho
                       . cases ho; exact id (lf [] [])
         . exact lv [] [] ho
       . exact we ho
       . exact rv ho⟩
end Go.Ai.TabYtppebpagcocogaaGreat
/- The statement ServiceTurns holds,for every input; no condition. -/
namespace Go.Proofs.YtppebpagcocogaaGreat
open Go Go.Ai Go.Ai.Sx Go.Ai.TabYtppebpagcocogaaGreat
def zgf:zso (Plan×Service×Int×Int×Unit):=zpw zbl (zpw zdR (zpw (zj .i64) (zpw (zj .i64) zzj)))
theorem zko:zmK Tryz.prog [25,50,3,3] zgf:=zga o25 (by kernel_rfl) (zga o50 (by kernel_rfl) (zga o3 (by kernel_rfl) (zga o3 (by kernel_rfl) zpx)))
theorem zwZ {z:Store} {vs:List zd} {x:Plan×Service×Int×Int×Unit} (h:zgf.rel z vs x):x.2.1.1.length<=9223372036854775807:=by
 obtain ⟨_,_,_,_,_,_,_,h2,_⟩:=h;obtain ⟨_,_,_,⟨_,_,h3⟩,_⟩:=h2.rel;exact h3.1
set_option maxRecDepth 100000 in
theorem zyw:(Rows.serviceTurnsRow.inPlace==Tryz.prog.inPlace 14)=true:=by kernel_rfl
set_option maxRecDepth 100000 in
theorem zyx:(Rows.serviceTurnsRow.unfollowed==Tryz.prog.unfollowed 14)=true:=by kernel_rfl
set_option maxRecDepth 100000 in
theorem zyy:(Rows.serviceTurnsRow.recurses==Tryz.prog.recurses 14)=true:=by kernel_rfl
set_option maxRecDepth 100000 in
theorem zyz:(Rows.serviceTurnsRow.named==Tryz.prog.varsNamed 14)=true:=by kernel_rfl
set_option maxRecDepth 100000 in
theorem zyA:(Rows.serviceTurnsRow.loops==(Tryz.f14.params.toList++Rows.serviceTurnsSpec.plain.varTypes Tryz.prog).any (Tryz.prog.loopsFrom ·))=true:=by kernel_rfl
set_option maxRecDepth 100000 in
theorem zyB:Rows.serviceTurnsRow.wf (OpenSpec.ofChange Rows.serviceTurnsSpec)=true:=by kernel_rfl
set_option maxRecDepth 100000 in
theorem zyC:Tryz.f14.params.all (Tryz.prog.readableRec ·)=true:=by kernel_rfl
set_option maxRecDepth 100000 in
theorem zyD:(Rows.serviceTurnsRow.maps==(Tryz.f14.params.toList++Rows.serviceTurnsSpec.plain.varTypes Tryz.prog).any (Tryz.prog.mapsRec ·))=true:=by kernel_rfl
set_option maxRecDepth 100000 in
theorem zyE:(Rows.serviceTurnsRow.ifaces==(Tryz.f14.params.toList++Rows.serviceTurnsSpec.plain.varTypes Tryz.prog).any (Tryz.prog.ifacesRec ·))=true:=by kernel_rfl
set_option maxRecDepth 100000 in
theorem zuk:joinedFacts Tryz.prog 14 Tryz.f14 Rows.serviceTurnsSpec Rows.serviceTurnsRow=true:=by
 unfold joinedFacts;exact (zhk (zhk (zhk (zhk (zhk (zhk (zhk (zhk (zhk (zhk (zhk (zhk (zhk (zhk (zhk (zhk (zhk (zhk (zhk (zhk (zhk (zhk (zhk (zhk (zhk (zhk (zhk (zhk (zhk (zhk (zhk zyB zq4) zxO) zyC) (by kernel_rfl)) rfl) zv3) rfl) zv4) zyw) zyx) zyy) zyz) zyD) zyE) (by kernel_rfl)) zyA) (by kernel_rfl)) (by kernel_rfl)) (by kernel_rfl)) (by kernel_rfl)) (by kernel_rfl)) zv5) rfl) zv6) zv7) zxP) zxQ) (by kernel_rfl)) (by kernel_rfl)) (by kernel_rfl)) (by kernel_rfl))
set_option maxRecDepth 100000 in
theorem turns_holds:Rows.ServiceTurnsSaid:=
 OpenClaim.holds_of_wide 14 Tryz.f14 rfl rfl rfl rfl rfl rfl rfl ⟨rfl,rfl,rfl,rfl,rfl⟩ rfl rfl rfl rfl rfl (by kernel_rfl) Tryz.func14 zuk
  (of_decide_eq_true (by kernel_rfl)) (by unfold Func.isWrapper; first | (rw [if_pos (by decide +kernel)]; kernel_rfl) | (rw [if_neg (by decide +kernel)]; exact ⟨rfl,rfl⟩))
  (λos started H enc _=>by
   show ReturnsInHanded {} Tryz.checked os 14 .any (Rows.serviceTurnsSpec.pre6 enc Tryz.prog Tryz.f14 Rows.serviceTurnsRow.domain false) (Rows.serviceTurnsSpec.post enc Tryz.prog Tryz.f14 false true false false);refine returnsInHanded_of_change_shaped (C:=Tryz.checked) own started (by kernel_rfl) Tryz.func14
    (ChangeSpec.witness6 (enc:=enc) (C:=Tryz.checked) false ⟨#[],#[.agg #[.slice none 0 0,.slice none 0 0],.agg #[.slice none 0 0,.slice none 0 0,.slice none 0 0],.int .i64 0,.int .i64 0],[]⟩ 14 (by kernel_rfl) (by kernel_rfl) (by kernel_rfl) (by kernel_rfl)) ?_
   intro W base args ds gs before hval hW _ _ hsh _;exact zmL (C:=Tryz.checked) zvv zq4 rfl (tb:=4) (by kernel_rfl) Tryz.underlying4 (by rw [Tryz.params14]; decide +kernel) (λH ds hd=>by
    match ds,hd with
    | [_,_,_,_],_=>rfl) (by rw [Tryz.params14]; exact zko)
    (zvt (S:=zgf) (zi1 (zi1 (zi1 (zi1 zvs)))) (λz vs x hx=>i14.ok _ (zsi x.1 x.2.1 x.2.2.1 x.2.2.2.1 (zwZ hx)))) (ztl hsh) hval hW)
end Go.Proofs.YtppebpagcocogaaGreat