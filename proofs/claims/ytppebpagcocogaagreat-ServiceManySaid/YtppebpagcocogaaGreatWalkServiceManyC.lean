/- Written by program: walks through functions. -/
import Derived.Test.YtppebpagcocogaaGreatT11
import Derived.Test.YtppebpagcocogaaGreatWalkServiceManyP0C
import Derived.Test.YtppebpagcocogaaGreatT21
import Derived.Test.YtppebpagcocogaaGreatT20
import Derived.Test.YtppebpagcocogaaGreatT18
set_option linter.unusedSimpArgs false
set_option linter.unusedVariables false
set_option linter.unusedSectionVars false
namespace Go.Ai.TabYtppebpagcocogaaGreat
open Go Go.Ai Go.Ai.Sx Go.Proofs
attribute [local irreducible] zo
set_option maxRecDepth 100000
set_option maxHeartbeats 4000000
theorem g_slices_symMergeCmpFunc_api_Trip_body_ok {rec:(List Trip)->Int->Int->Int->((Trip×Trip)->Option (Int))->Option (List Trip)} (hrec:∀ {data_0 a_1 m_2 b_3 cmp_4} {out:(List Trip)},rec data_0 a_1 m_2 b_3 cmp_4=some out->∀ (v_0:zd),zge ktab 169 [.raw v_0,.val (zj .i64) a_1,.val (zj .i64) m_2,.val (zj .i64) b_3,.val (rFn ktab (Trip×Trip) (Int) (λx=>[.val zp (x.1),.val zp (x.2)]) (λy=>[.val (zj .i64) (y)])) cmp_4] [(v_0,.row zp (data_0))] [] (λγ=>[(v_0,.row zp (out))])) {data_0:(List Trip)} {a_1:Int} {m_2:Int} {b_3:Int} {cmp_4:((Trip×Trip)->Option (Int))} {out:(List Trip)} (ho:zk rec data_0 a_1 m_2 b_3 cmp_4=some out) (v_0:zd):zge ktab 169 [.raw v_0,.val (zj .i64) a_1,.val (zj .i64) m_2,.val (zj .i64) b_3,.val (rFn ktab (Trip×Trip) (Int) (λx=>[.val zp (x.1),.val zp (x.2)]) (λy=>[.val (zj .i64) (y)])) cmp_4] [(v_0,.row zp (data_0))] [] (λγ=>[(v_0,.row zp (out))]):=by
 refine zcO (F:=Tryz.f169) (by rfl) (by rfl) (by rfl) (λC=>?_);delta zk at ho;refine gct ho (λhq1 ho=>?_) λhq1 ho=>?_
 . obtain ⟨ta,ha,ho⟩:=bnd ho;refine glp ha [0,1,4] [0] [0] (λs g=>([(10,vI s.1),(11,vI s.2)],[])) (λb=>(.exit 0,λg=>([(10,vI b)],[]))) [] (λsa ga _ ho=>?_) λgb=>?_
   . refine gct ho (λhc ho=>?_) λhc ho=>?_
     . obtain ⟨xa,haE,ho⟩:=bnd ho;refine run 13 ?_;refine zai [4,8] (by kernel_rfl) ?_;obtain ⟨xb,haF,xd,haG,ya,hd,ho⟩:=znC ho;refine gcv hd ?_;refine gct ho (λhe ho=>?_) λhe ho=>?_
       . exact lv [] [0] ho
       . exact lv [] [0] ho
     . exact lv [] [0] ho
   . obtain ⟨tb,hf,ho⟩:=bnd ho;refine glp hf [0,10] [] [0] (λs g=>([(13,vI s.1)],[(v_0,.row zp s.2)])) (λb=>(.exit 2,λg=>([],[(v_0,.row zp b)]))) [] (λsb gc _ ho=>?_) λgd=>?_
     . refine gct ho (λhg ho=>?_) λhg ho=>?_
       . refine run 3 ?_;refine zai [9,13] (by kernel_rfl) ?_;obtain ⟨xe,haH,xf,haI,ho⟩:=zeh ho;refine run 14 ?_;obtain ⟨xg,haJ,xh,haK,ho⟩:=zeh ho;exact lv [] [0] ho
       . exact lv [] [0] ho
     . cases ho; exact zer (z7 [0] [] (.inr rfl) .n rfl (by decide))
 . refine gct ho (λhh ho=>?_) λhh ho=>?_
   . obtain ⟨tc,hi,ho⟩:=bnd ho;refine glp hi [0,2,4] [0] [0] (λs g=>([(14,vI s.1),(15,vI s.2)],[])) (λb=>(.exit 4,λg=>([(14,vI b)],[]))) [] (λsc ge _ ho=>?_) λgf=>?_
     . refine gct ho (λhj ho=>?_) λhj ho=>?_
       . obtain ⟨xi,haL,ho⟩:=bnd ho;refine run 13 ?_;refine zai [4,8] (by kernel_rfl) ?_;obtain ⟨xj,haM,xk,haN,yb,hk,ho⟩:=znC ho;refine gcv hk ?_;refine gct ho (λhl ho=>?_) λhl ho=>?_
         . exact lv [] [0] ho
         . exact lv [] [0] ho
       . exact lv [] [0] ho
     . obtain ⟨td,hm,ho⟩:=bnd ho;refine glp hm [0,14] [] [0] (λs g=>([(17,vI s.1)],[(v_0,.row zp s.2)])) (λb=>(.exit 6,λg=>([],[(v_0,.row zp b)]))) [] (λsd gg _ ho=>?_) λgh=>?_
       . refine gct ho (λhn ho=>?_) λhn ho=>?_
         . refine run 3 ?_;refine zai [9,13] (by kernel_rfl) ?_;obtain ⟨xl,haO,xm,haP,ho⟩:=zeh ho;refine run 14 ?_;obtain ⟨xn,haQ,xo,haR,ho⟩:=zeh ho;exact lv [] [0] ho
         . exact lv [] [0] ho
       . cases ho; exact zer (z7 [0] [] (.inr rfl) .n rfl (by decide))
   . obtain ⟨xp,haS,ho⟩:=bnd ho;refine gct ho (λhp ho=>?_) λhp ho=>?_
     . obtain ⟨te,hr,ho⟩:=bnd ho;refine glp hr [0,1,2,3,4,18,19,22] [0] [0] (λs g=>([(20,vI s.1),(21,vI s.2)],[])) (λb=>(.exit 8,λg=>([(20,vI b)],[]))) [] (λse gi _ ho=>?_) λgj=>?_
       . refine gct ho (λhs ho=>?_) λhs ho=>?_
         . obtain ⟨xq,haT,ho⟩:=bnd ho;refine run 13 ?_;refine zai [6,10] (by kernel_rfl) ?_;obtain ⟨xr,haU,xt,haV,yc,ht,ho⟩:=znC ho;refine gcv ht ?_;refine gct ho (λhu ho=>?_) λhu ho=>?_
           . exact lv [] [0] ho
           . exact lv [] [0] ho
         . exact lv [] [0] ho
       . obtain ⟨ca,hv,ho⟩:=bnd ho;refine run 9 ?_;refine gcx ca [0,1,2,3,4,18,20,24] [0] (λt=>(.normal,λ_=>([(185,vB t)],[]))) ?_ λ_=>?_
         . have ho:=hv;refine wbr ho (λhw ho=>?_) λhw ho=>?_
           . exact lv [] [0] ho
           . exact lv [] [0] ho
         . refine gct ho (λhy ho=>?_) λhy ho=>?_
           . obtain ⟨yd,hz,ho⟩:=bnd ho;refine gcm [0] [] (g_slices_rotateCmpFunc_api_Trip_ok hz v_0) ?_;intro gk;show zo ..;obtain ⟨cc,hA,ho⟩:=bnd ho;refine run 3 ?_;refine gcx cc [0,1,3,4,18,20,24] [0] (λt=>(.normal,λ_=>([(199,vB t)],[]))) ?_ λ_=>?_
             . have ho:=hA;refine wbr ho (λhB ho=>?_) λhB ho=>?_
               . exact lv [] [0] ho
               . exact lv [] [0] ho
             . refine gct ho (λhC ho=>?_) λhC ho=>?_
               . obtain ⟨ye,hD,ho⟩:=bnd ho;refine gcm [0] [] (hrec hD v_0) ?_;intro gl;show zo ..;obtain ⟨cd,hE,ho⟩:=bnd ho;refine run 2 ?_;refine gcx cd [0,3,4,18,24] [0] (λt=>(.normal,λ_=>([(213,vB t)],[]))) ?_ λ_=>?_
                 . have ho:=hE;refine wbr ho (λhF ho=>?_) λhF ho=>?_
                   . exact lv [] [0] ho
                   . exact lv [] [0] ho
                 . refine gct ho (λhG ho=>?_) λhG ho=>?_
                   . obtain ⟨yf,hH,ho⟩:=bnd ho;refine gcm [0] [] (hrec hH v_0) ?_;intro gm;show zo ..;cases ho; exact zc6 (z7 [0] [] (.inl rfl) .n rfl (by decide))
                   . cases ho; exact zdv (z7 [0] [] (.inl rfl) .n rfl (by decide))
               . obtain ⟨ce,hI,ho⟩:=bnd ho;refine run 2 ?_;refine gcx ce [0,3,4,18,24] [0] (λt=>(.normal,λ_=>([(213,vB t)],[]))) ?_ λ_=>?_
                 . have ho:=hI;refine wbr ho (λhJ ho=>?_) λhJ ho=>?_
                   . exact lv [] [0] ho
                   . exact lv [] [0] ho
                 . refine gct ho (λhK ho=>?_) λhK ho=>?_
                   . obtain ⟨yg,hL,ho⟩:=bnd ho;refine gcm [0] [] (hrec hL v_0) ?_;intro gn;show zo ..;cases ho; exact zc6 (z7 [0] [] (.inl rfl) .n rfl (by decide))
                   . cases ho; exact zdv (z7 [0] [] (.inl rfl) .n rfl (by decide))
           . obtain ⟨cf,hM,ho⟩:=bnd ho;refine run 3 ?_;refine gcx cf [0,1,3,4,18,20,24] [0] (λt=>(.normal,λ_=>([(199,vB t)],[]))) ?_ λ_=>?_
             . have ho:=hM;refine wbr ho (λhN ho=>?_) λhN ho=>?_
               . exact lv [] [0] ho
               . exact lv [] [0] ho
             . refine gct ho (λhO ho=>?_) λhO ho=>?_
               . obtain ⟨yh,hP,ho⟩:=bnd ho;refine gcm [0] [] (hrec hP v_0) ?_;intro gp;show zo ..;obtain ⟨cg,hQ,ho⟩:=bnd ho;refine run 2 ?_;refine gcx cg [0,3,4,18,24] [0] (λt=>(.normal,λ_=>([(213,vB t)],[]))) ?_ λ_=>?_
                 . have ho:=hQ;refine wbr ho (λhR ho=>?_) λhR ho=>?_
                   . exact lv [] [0] ho
                   . exact lv [] [0] ho
                 . refine gct ho (λhS ho=>?_) λhS ho=>?_
                   . obtain ⟨yi,hT,ho⟩:=bnd ho;refine gcm [0] [] (hrec hT v_0) ?_;intro gq;show zo ..;cases ho; exact zc6 (z7 [0] [] (.inl rfl) .n rfl (by decide))
                   . cases ho; exact zdv (z7 [0] [] (.inl rfl) .n rfl (by decide))
               . obtain ⟨ch,hU,ho⟩:=bnd ho;refine run 2 ?_;refine gcx ch [0,3,4,18,24] [0] (λt=>(.normal,λ_=>([(213,vB t)],[]))) ?_ λ_=>?_
                 . have ho:=hU;refine wbr ho (λhV ho=>?_) λhV ho=>?_
                   . exact lv [] [0] ho
                   . exact lv [] [0] ho
                 . refine gct ho (λhW ho=>?_) λhW ho=>?_
                   . obtain ⟨yj,hX,ho⟩:=bnd ho;refine gcm [0] [] (hrec hX v_0) ?_;intro gr;show zo ..;cases ho; exact zc6 (z7 [0] [] (.inl rfl) .n rfl (by decide))
                   . cases ho; exact zdv (z7 [0] [] (.inl rfl) .n rfl (by decide))
     . obtain ⟨tf,hY,ho⟩:=bnd ho;refine glp hY [0,1,2,3,4,18,19,22] [0] [0] (λs g=>([(20,vI s.1),(21,vI s.2)],[])) (λb=>(.exit 8,λg=>([(20,vI b)],[]))) [] (λsf gs _ ho=>?_) λgt=>?_
       . refine gct ho (λhZ ho=>?_) λhZ ho=>?_
         . obtain ⟨xu,haW,ho⟩:=bnd ho;refine run 13 ?_;refine zai [6,10] (by kernel_rfl) ?_;obtain ⟨xv,haX,xw,haY,yk,haa,ho⟩:=znC ho;refine gcv haa ?_;refine gct ho (λhab ho=>?_) λhab ho=>?_
           . exact lv [] [0] ho
           . exact lv [] [0] ho
         . exact lv [] [0] ho
       . obtain ⟨ci,hac,ho⟩:=bnd ho;refine run 9 ?_;refine gcx ci [0,1,2,3,4,18,20,24] [0] (λt=>(.normal,λ_=>([(185,vB t)],[]))) ?_ λ_=>?_
         . have ho:=hac;refine wbr ho (λhad ho=>?_) λhad ho=>?_
           . exact lv [] [0] ho
           . exact lv [] [0] ho
         . refine gct ho (λhae ho=>?_) λhae ho=>?_
           . obtain ⟨yl,haf,ho⟩:=bnd ho;refine gcm [0] [] (g_slices_rotateCmpFunc_api_Trip_ok haf v_0) ?_;intro gu;show zo ..;obtain ⟨cj,hag,ho⟩:=bnd ho;refine run 3 ?_;refine gcx cj [0,1,3,4,18,20,24] [0] (λt=>(.normal,λ_=>([(199,vB t)],[]))) ?_ λ_=>?_
             . have ho:=hag;refine wbr ho (λhah ho=>?_) λhah ho=>?_
               . exact lv [] [0] ho
               . exact lv [] [0] ho
             . refine gct ho (λhai ho=>?_) λhai ho=>?_
               . obtain ⟨ym,haj,ho⟩:=bnd ho;refine gcm [0] [] (hrec haj v_0) ?_;intro gv;show zo ..;obtain ⟨ck,hak,ho⟩:=bnd ho;refine run 2 ?_;refine gcx ck [0,3,4,18,24] [0] (λt=>(.normal,λ_=>([(213,vB t)],[]))) ?_ λ_=>?_
                 . have ho:=hak;refine wbr ho (λhal ho=>?_) λhal ho=>?_
                   . exact lv [] [0] ho
                   . exact lv [] [0] ho
                 . refine gct ho (λham ho=>?_) λham ho=>?_
                   . obtain ⟨yn,han,ho⟩:=bnd ho;refine gcm [0] [] (hrec han v_0) ?_;intro gw;show zo ..;cases ho; exact zc6 (z7 [0] [] (.inl rfl) .n rfl (by decide))
                   . cases ho; exact zdv (z7 [0] [] (.inl rfl) .n rfl (by decide))
               . obtain ⟨cl,hao,ho⟩:=bnd ho;refine run 2 ?_;refine gcx cl [0,3,4,18,24] [0] (λt=>(.normal,λ_=>([(213,vB t)],[]))) ?_ λ_=>?_
                 . have ho:=hao;refine wbr ho (λhap ho=>?_) λhap ho=>?_
                   . exact lv [] [0] ho
                   . exact lv [] [0] ho
                 . refine gct ho (λhaq ho=>?_) λhaq ho=>?_
                   . obtain ⟨yo,har,ho⟩:=bnd ho;refine gcm [0] [] (hrec har v_0) ?_;intro gx;show zo ..;cases ho; exact zc6 (z7 [0] [] (.inl rfl) .n rfl (by decide))
                   . cases ho; exact zdv (z7 [0] [] (.inl rfl) .n rfl (by decide))
           . obtain ⟨cm,has,ho⟩:=bnd ho;refine run 3 ?_;refine gcx cm [0,1,3,4,18,20,24] [0] (λt=>(.normal,λ_=>([(199,vB t)],[]))) ?_ λ_=>?_
             . have ho:=has;refine wbr ho (λhat ho=>?_) λhat ho=>?_
               . exact lv [] [0] ho
               . exact lv [] [0] ho
             . refine gct ho (λhau ho=>?_) λhau ho=>?_
               . obtain ⟨yp,hav,ho⟩:=bnd ho;refine gcm [0] [] (hrec hav v_0) ?_;intro gy;show zo ..;obtain ⟨cn,haw,ho⟩:=bnd ho;refine run 2 ?_;refine gcx cn [0,3,4,18,24] [0] (λt=>(.normal,λ_=>([(213,vB t)],[]))) ?_ λ_=>?_
                 . have ho:=haw;refine wbr ho (λhax ho=>?_) λhax ho=>?_
                   . exact lv [] [0] ho
                   . exact lv [] [0] ho
                 . refine gct ho (λhay ho=>?_) λhay ho=>?_
                   . obtain ⟨yq,haz,ho⟩:=bnd ho;refine gcm [0] [] (hrec haz v_0) ?_;intro gz;show zo ..;cases ho; exact zc6 (z7 [0] [] (.inl rfl) .n rfl (by decide))
                   . cases ho; exact zdv (z7 [0] [] (.inl rfl) .n rfl (by decide))
               . obtain ⟨co,haA,ho⟩:=bnd ho;refine run 2 ?_;refine gcx co [0,3,4,18,24] [0] (λt=>(.normal,λ_=>([(213,vB t)],[]))) ?_ λ_=>?_
                 . have ho:=haA;refine wbr ho (λhaB ho=>?_) λhaB ho=>?_
                   . exact lv [] [0] ho
                   . exact lv [] [0] ho
                 . refine gct ho (λhaC ho=>?_) λhaC ho=>?_
                   . obtain ⟨yr,haD,ho⟩:=bnd ho;refine gcm [0] [] (hrec haD v_0) ?_;intro gA;show zo ..;cases ho; exact zc6 (z7 [0] [] (.inl rfl) .n rfl (by decide))
                   . cases ho; exact zdv (z7 [0] [] (.inl rfl) .n rfl (by decide))
theorem g_slices_symMergeCmpFunc_api_Trip_ok {k:Nat} {data_0 a_1 m_2 b_3 cmp_4 out} (ho:zq k data_0 a_1 m_2 b_3 cmp_4=some out) (v_0:zd):zge ktab 169 [.raw v_0,.val (zj .i64) a_1,.val (zj .i64) m_2,.val (zj .i64) b_3,.val (rFn ktab (Trip×Trip) (Int) (λx=>[.val zp (x.1),.val zp (x.2)]) (λy=>[.val (zj .i64) (y)])) cmp_4] [(v_0,.row zp (data_0))] [] (λγ=>[(v_0,.row zp (out))]):=by
 induction k generalizing data_0 a_1 m_2 b_3 cmp_4 out v_0 with
 | zero=>cases ho
 | succ k ih=>exact g_slices_symMergeCmpFunc_api_Trip_body_ok (λh v_0=>ih h v_0) ho v_0
theorem g_slices_stableCmpFunc_api_Trip_ok {data_0 n_1 cmp_2 out} (ho:zah data_0 n_1 cmp_2=some out) (v_0:zd):zge ktab 140 [.raw v_0,.val (zj .i64) n_1,.val (rFn ktab (Trip×Trip) (Int) (λx=>[.val zp (x.1),.val zp (x.2)]) (λy=>[.val (zj .i64) (y)])) cmp_2] [(v_0,.row zp (data_0))] [] (λγ=>[(v_0,.row zp (out))]):=by
 refine zcO (F:=Tryz.f140) (by rfl) (by rfl) (by rfl) (λC=>?_);delta zah at ho;obtain ⟨ta,ha,ho⟩:=bnd ho;refine glp ha [0,1,2,6] [] [0] (λs g=>([(7,vI s.1),(8,vI s.2.1)],[(v_0,.row zp s.2.2)])) (λb=>(.exit 0,λg=>([(7,vI b.1)],[(v_0,.row zp b.2)]))) [] (λs7 g8 _ ho=>?_) λga=>?_
 . refine gct ho (λhq9 ho=>?_) λhq9 ho=>?_
   . obtain ⟨ya,hc,ho⟩:=bnd ho;refine gcm [0] [] (g_slices_insertionSortCmpFunc_api_Trip_ok hc v_0) ?_;intro gb;show zo ..;exact lv [] [0] ho
   . exact lv [] [0] ho
 . obtain ⟨yb,hd,ho⟩:=bnd ho;refine gcm [0] [] (g_slices_insertionSortCmpFunc_api_Trip_ok hd v_0) ?_;intro gc;show zo ..;obtain ⟨tb,he,ho⟩:=bnd ho;refine glp he [0,1,2] [] [0] (λs g=>([(6,vI s.1)],[(v_0,.row zp s.2)])) (λb=>(.exit 2,λg=>([],[(v_0,.row zp b)]))) [] (λsa gd _ ho=>?_) λge=>?_
   . refine gct ho (λhf ho=>?_) λhf ho=>?_
     . obtain ⟨tc,hg,ho⟩:=bnd ho;refine glp hg [0,1,2,6] [] [0] (λs g=>([(7,vI s.1),(8,vI s.2.1)],[(v_0,.row zp s.2.2)])) (λb=>(.exit 4,λg=>([(7,vI b.1)],[(v_0,.row zp b.2)]))) [] (λsb gf _ ho=>?_) λgg=>?_
       . refine gct ho (λhh ho=>?_) λhh ho=>?_
         . obtain ⟨yc,hi,ho⟩:=bnd ho;refine gcm [0] [] (g_slices_symMergeCmpFunc_api_Trip_ok hi v_0) ?_;intro gh;show zo ..;exact lv [] [0] ho
         . exact lv [] [0] ho
       . refine gct ho (λhj ho=>?_) λhj ho=>?_
         . obtain ⟨yd,hk,ho⟩:=bnd ho;refine gcm [0] [] (g_slices_symMergeCmpFunc_api_Trip_ok hk v_0) ?_;intro gi;show zo ..;exact lv [] [0] ho
         . exact lv [] [0] ho
     . exact lv [] [0] ho
   . cases ho; exact id (z7 [0] [] (.inl rfl) .n rfl (by decide))
theorem g_slices_SortStableFunc_api_Trip_api_Trip_ok {x_0 cmp_1 out} (ho:zD x_0 cmp_1=some out) (v_0:zd):zge ktab 119 [.raw v_0,.val (rFn ktab (Trip×Trip) (Int) (λx=>[.val zp (x.1),.val zp (x.2)]) (λy=>[.val (zj .i64) (y)])) cmp_1] [(v_0,.row zp (x_0))] [] (λγ=>[(v_0,.row zp (out))]):=by
 refine zcO (F:=Tryz.f119) (by rfl) (by rfl) (by rfl) (λC=>?_);delta zD at ho;obtain ⟨y1,hy1,ho⟩:=bnd ho;refine gcm [0] [] (g_slices_stableCmpFunc_api_Trip_ok hy1 v_0) ?_;intro g2;show zo ..;cases ho; exact zc6 (z7 [0] [] (.inl rfl) .n rfl (by decide))
instance i91 {order_0 l_1}:FI ktab 91 (zaK order_0 l_1) [.val (rFn ktab (Trip×Trip) (Int) (λx=>[.val zp (x.1),.val zp (x.2)]) (λy=>[.val (zj .i64) (y)])) order_0,.val (zf (zf zp)) l_1] (λout=>[.row zp out]):=⟨λout ho=>by
 delta zaK at ho;refine fn λ_ _=>?_;refine gnr zp ?_;refine gcl ho λy1 hy1 ho=>?_;intro v2;show zo ..;obtain ⟨y3,hy3,ho⟩:=bnd ho;refine gcm [0] [1] (g_slices_SortStableFunc_api_Trip_api_Trip_ok hy3 v2) ?_;intro g4;exact we ho⟩
instance i93 {x_0 y_1}:FI ktab 93 (zds x_0 y_1) [vI x_0,vI y_1] (λout=>[wI out]):=fw
instance i92 {a_0 b_1}:FI ktab 92 (zb5 a_0 b_1) [.val zp a_0,.val zp b_1] (λout=>[wI out]):=fw
instance i49 {p_0 s_1 w_2 from_3 until_4}:FI ktab 49 (zaY p_0 s_1 w_2 from_3 until_4) [.val zaZ p_0,.val zcb s_1,.val (zf zbs) w_2,vI from_3,vI until_4] (λout=>[.row zp out.1,wI out.2]):=⟨λout ho=>by
 delta zaY at ho;refine fn λ_ _=>?_;refine gnr zp ?_;refine gcl ho λy1 hy1 ho=>?_;obtain ⟨c7,hc7,ho⟩:=bnd ho;refine run 8 ?_;refine gcx c7 [3,6,7,9,12] [0] (λt=>(.normal,λ_=>([(45,vB t)],[]))) ?_ λ_=>?_
 . have ho:=hc7;refine wbr ho (λhb8 ho=>?_) λhb8 ho=>?_
   . exact lv [] [0] ho
   . refine gcl ho λy9 hy9 ho=>?_;refine wbr ho (λhc ho=>?_) λhc ho=>?_
     . exact lv [] [0] ho
     . refine gcl ho λya hp ho=>?_;refine wbr ho (λhd ho=>?_) λhd ho=>?_
       . exact lv [] [0] ho
       . exact lv [] [0] ho
 . refine gct ho (λhe ho=>?_) λhe ho=>?_
   . refine gnr zp ?_;exact we ho
   . refine gnr (zf zp) ?_;obtain ⟨tb,hg,ho⟩:=bnd ho;refine glp hg [3,6,7,9,46,47] [] [0] (λs g=>([(14,.raw (gh g 0)),(48,vI s.2)],[((gh g 0),.row (zf zp) s.1)])) (λb=>(.exit 0,λg=>([(14,.raw (gh g 0))],[((gh g 0),.row (zf zp) b)]))) [.nilslice] (λsb gb _ ho=>?_) λge=>?_
     . refine gct ho (λhh ho=>?_) λhh ho=>?_
       . obtain ⟨xa,hr,ho⟩:=bnd ho;refine gal λbb=>?_;refine gal λbc=>?_;refine run 1 ?_;refine zeS (zce (R:=(zj .i64)) (a:=sb.2) 1 [15] (zE rfl) rfl rfl ⟨rfl,trivial⟩) ?_;refine run 1 ?_;refine zeS (zce (R:=(zaG zi)) (a:=xa) 0 [16] (zE rfl) rfl rfl ⟨rfl,trivial⟩) ?_;obtain ⟨tc,hi,ho⟩:=bnd ho;refine glp hi [3,6,7,9,15,16,46,47,48] [] [0] (λs g=>([(14,.raw (gh g 0)),(53,vI s.2)],[((gh g 0),.row (zf zp) s.1)])) (λb=>(.exit 2,λg=>([(14,.raw (gh g 0))],[((gh g 0),.row (zf zp) b)]))) [(gh gb 0)] (λsa ga _ ho=>?_) λgd=>?_
         . refine gct ho (λhj ho=>?_) λhj ho=>?_
           . refine gal λbd=>?_;refine run 1 ?_;refine zeS (zce (R:=(zj .i64)) (a:=sa.2) 0 [17] (zE rfl) rfl rfl ⟨rfl,trivial⟩) ?_;refine run 3 ?_;refine zeS (zdz zp) ?_;refine gal λba=>?_;obtain ⟨xb,hs,xd,ht,ho⟩:=zeh ho;refine gcl ho λyb hu ho=>?_;obtain ⟨ta,ha,ho⟩:=bnd ho;refine run 2 ?_;refine zn5 (σ:=(List Trip)) (τ:=(List Trip)) (X:=(Int×Int)) (ins:=(λx=>[.val (zj .i64) x.1,.val (zj .i64) x.2])) (zzl (λs g=>[(.ptr ba 0,.box [.raw (gh g 0)]),((gh ga 0),.row (zf zp) sa.1),((gh g 0),.row zp s)]) (λt g=>[(.ptr ba 0,.box [.raw (gh g 0)]),((gh ga 0),.row (zf zp) sa.1),((gh g 0),.row zp t)])) (λ_=>some 4) (s0:=[]) (r:=ta) [.nilslice] [0,2,1] [] rfl (.t rfl) rfl rfl (by decide) (λ_=>rfl) (λyv K hcb γ=>g_service_running_departures_1_ok hcb ha γ) ?_ ?_
             . clear ho ha;intro sc gc xe r193 ho C;refine run 6 ?_;refine zc6 (λfr h s=>And.intro rfl (Exists.intro _ (Exists.intro _ (And.intro s (λC=>?_)))));refine gcl ho λyc hv ho=>?_;refine gct ho (λhk ho=>?_) λhk ho=>?_
               . cases ho; exact zmV (λfr h s=>And.intro rfl (Exists.intro [(gh gc 0)] (s.pick [0,1,2] trivial rfl (by decide))))
               . refine gcl ho λyd hw ho=>?_;refine gct ho (λhl ho=>?_) λhl ho=>?_
                 . obtain ⟨xf,hy,ho⟩:=bnd ho;refine gap λva=>?_;refine zd6 1 0 (U88).sz rfl rfl (by exact Nat.le_of_ble_eq_true rfl) (.n rfl) rfl rfl (.t rfl) (.t rfl) (by rfl) ?_;cases ho; exact zc6 (λfr h s=>And.intro rfl (Exists.intro [va] (s.pick [1,2,0] trivial rfl (by decide))))
                 . cases ho; exact zdv (λfr h s=>And.intro rfl (Exists.intro [(gh gc 0)] (s.pick [0,1,2] trivial rfl (by decide))))
             . clear ha;rcases ta with be | bf
               . have ho:=ztA ho;intro gf;refine gwk [3,6,7,9,14,15,16,17,18,46,47,48,53,54,55,56,57,58,59,60,61,62,63,64,65,66,67,68,69] [0,1,2] ?_;refine run 3 ?_;refine zeS (zdT 2 0 (q:=0) [94] rfl rfl rfl rfl (by rfl) ⟨rfl,trivial⟩) ?_;obtain ⟨xg,hz,ho⟩:=bnd ho;refine gap λvb=>?_;exact lv [vb] [0] ho
               . have ho:=ztB ho;intro gg;refine gwk [3,6,7,9,14,15,16,17,18,46,47,48,53,54,55,56,57,58,59,60,61,62,63,64,65,66,67,68,69] [0,1,2] ?_;refine run 3 ?_;refine zeS (zdT 2 0 (q:=0) [94] rfl rfl rfl rfl (by rfl) ⟨rfl,trivial⟩) ?_;obtain ⟨xh,hA,ho⟩:=bnd ho;refine gap λvc=>?_;exact lv [vc] [0] ho
           . exact lv [(gh ga 0)] [0] ho
         . exact lv [(gh gd 0)] [0] ho
       . exact lv [(gh gb 0)] [0] ho
     . obtain ⟨ye,hm,ho⟩:=bnd ho;refine run 3 ?_;refine zfG (i91.ok _ hm) (.r (zaU zbS (zaU zeD (zaU zbS (zaU zbS zfk)))) .n) rfl (.n rfl) rfl rfl rfl .f (.c (.o (.fv (zgB (λx y hf=>i92.ok _ hf) rfl))) (.c (.r 0 (.t rfl) rfl) .n)) ?_;intro vd;show zo ..;refine gct ho (λhn ho=>?_) λhn ho=>?_
       . refine gnr zp ?_;exact we ho
       . exact we ho⟩
instance i13 {headway_0 until_1}:FI ktab 13 (zb9 headway_0 until_1) [vI headway_0,vI until_1] (λout=>[wB out]):=⟨λout ho=>by
 delta zb9 at ho;refine fn λ_ _=>?_;obtain ⟨c4,hc4,ho⟩:=bnd ho;refine run 6 ?_;refine gcx c4 [0,1] [] (λt=>(.normal,λ_=>([(28,vB t)],[]))) ?_ λ_=>?_
 . exact we hc4
 . refine gct ho (λhq8 ho=>?_) λhq8 ho=>?_
   . exact we ho
   . refine gcl ho λya hj ho=>?_;refine gal λba=>?_;refine gal λbb=>?_;refine gfz 1 zaZ ya.1 1 [5] ?_;refine gfz 1 zcs ya.2 0 [6] ?_;refine gal λbc=>?_;refine gfz 1 zcb (([ya.2],[headway_0],[0],()):Service) 0 [7] ?_;refine gcl ho λyb hk ho=>?_;intro va;show zo ..;refine gcl ho λyc hl ho=>?_;intro vb;show zo ..;obtain ⟨xa,hm,xb,hn,ho⟩:=zeh ho;refine gcl ho λyd hp ho=>?_;refine gcl ho λye hr ho=>?_;obtain ⟨xd,hs,xe,ht,yf,ha,ho⟩:=znC ho;refine run 21 ?_;refine zfG (i49.ok _ ha) (.r (zaU zbS (zaU zeD (zaU zbS (zaU zbS zfk)))) (.v zbS .n)) rfl (.n rfl) rfl rfl rfl .f (.c (.o (.t rfl)) (.c (.o (.t rfl)) (.c (.o .nil) (.c (.o (.i (by decide) (by decide))) (.c (.o (.t rfl)) .n))))) ?_;intro vc;show zo ..;refine gct ho (λhc ho=>?_) λhc ho=>?_
     . obtain ⟨ca,hd,ho⟩:=bnd ho;refine run 1 ?_;refine gcx ca [] [0,1,2] (λt=>(.normal,λ_=>([(4,vB t)],[]))) ?_ λ_=>?_
       . have ho:=hd;refine wbr ho (λhe ho=>?_) λhe ho=>?_
         . refine wbr ho (λhf ho=>?_) λhf ho=>?_
           . refine gcl ho λyg hu ho=>?_;exact lv [] [0,1,2] ho
           . exact lv [] [0,1,2] ho
         . exact lv [] [0,1,2] ho
       . exact rv ho
     . obtain ⟨cc,hg,ho⟩:=bnd ho;refine run 2 ?_;refine gcx cc [] [0,1,2] (λt=>(.normal,λ_=>([(4,vB t)],[]))) ?_ λ_=>?_
       . have ho:=hg;refine wbr ho (λhh ho=>?_) λhh ho=>?_
         . refine wbr ho (λhi ho=>?_) λhi ho=>?_
           . refine gcl ho λyh hv ho=>?_;exact lv [] [0,1,2] ho
           . exact lv [] [0,1,2] ho
         . exact lv [] [0,1,2] ho
       . exact rv ho⟩
end Go.Ai.TabYtppebpagcocogaaGreat