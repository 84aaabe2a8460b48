/- Written by program: walks through functions. -/
import Derived.Test.YtghlaibcihhbcaaGreatK11
set_option linter.unusedSimpArgs false
set_option linter.unusedVariables false
set_option linter.unusedSectionVars false
namespace Go.Ai.TabYtghlaibcihhbcaaGreat
open Go Go.Ai Go.Ai.Sx Go.Proofs
attribute [local irreducible] zm
set_option maxRecDepth 100000
set_option maxHeartbeats 4000000
theorem za1 {data_0 a_1 b_2 cmp_3 out} (ho:z7 data_0 a_1 b_2 cmp_3=some out) (v_0:ze):zgM ktab 164 [.raw v_0,.val (zh .i64) a_1,.val (zh .i64) b_2,.val (rFn ktab (zf×zf) (Int) (λx=>[.val zg (x.1),.val zg (x.2)]) (λy=>[.val (zh .i64) (y)])) cmp_3] [(v_0,.row zg (data_0))] [] (λγ=>[(v_0,.row zg (out))]):=by
 refine zdN (F:=Tryz.f164) (by rfl) (by rfl) (by rfl) (λC=>?_);delta z7 at ho;obtain ⟨ta,ha,ho⟩:=bnd ho;refine glp ha [0,1,2,3] [] [0] (λs g=>([(8,vI s.1)],[(v_0,.row zg s.2)])) (λb=>(.exit 0,λg=>([],[(v_0,.row zg b)]))) [] (λsa ga _ ho=>?_) λgb=>?_
 . refine gct ho (λhc ho=>?_) λhc ho=>?_
   . obtain ⟨tb,hd,ho⟩:=bnd ho;refine glp hd [0,1,2,3,8] [] [0] (λs g=>([(9,vI s.1)],[(v_0,.row zg s.2)])) (λb=>(.exit 2,λg=>([],[(v_0,.row zg b)]))) [] (λsb gc _ ho=>?_) λgd=>?_
     . refine run 2 ?_;refine zao [8,13] (by kernel_rfl) ?_;refine wbr ho (λhe ho=>?_) λhe ho=>?_
       . obtain ⟨xa,hh,xb,hi,ya,hf,ho⟩:=zpQ ho;refine gcv hf ?_;refine gct ho (λhg ho=>?_) λhg ho=>?_
         . refine run 3 ?_;refine zao [9,13] (by kernel_rfl) ?_;obtain ⟨xd,hj,xe,hk,ho⟩:=zfI ho;refine run 14 ?_;obtain ⟨xf,hl,xg,hm,ho⟩:=zfI ho;exact lv [] [0] ho
         . exact lv [] [0] ho
       . refine gk ?_;exact lv [] [0] ho
     . exact lv [] [0] ho
   . exact lv [] [0] ho
 . cases ho; exact id (zaF [0] [] (.inl rfl) .n rfl (by decide))
theorem zaK {data_0 a_1 b_2 n_3 cmp_4 out} (ho:z4 data_0 a_1 b_2 n_3 cmp_4=some out) (v_0:ze):zgM ktab 191 [.raw v_0,.val (zh .i64) a_1,.val (zh .i64) b_2,.val (zh .i64) n_3,.val (rFn ktab (zf×zf) (Int) (λx=>[.val zg (x.1),.val zg (x.2)]) (λy=>[.val (zh .i64) (y)])) cmp_4] [(v_0,.row zg (data_0))] [] (λγ=>[(v_0,.row zg (out))]):=by
 refine zdN (F:=Tryz.f191) (by rfl) (by rfl) (by rfl) (λC=>?_);delta z4 at ho;obtain ⟨ta,ha,ho⟩:=bnd ho;refine glp ha [0,1,2,3] [] [0] (λs g=>([(10,vI s.1)],[(v_0,.row zg s.2)])) (λb=>(.exit 0,λg=>([],[(v_0,.row zg b)]))) [] (λsa ga _ ho=>?_) λgb=>?_
 . refine gct ho (λhc ho=>?_) λhc ho=>?_
   . refine run 3 ?_;refine zao [13,19] (by kernel_rfl) ?_;obtain ⟨xa,hd,xb,he,ho⟩:=zfI ho;refine run 20 ?_;obtain ⟨xd,hf,xe,hg,ho⟩:=zfI ho;exact lv [] [0] ho
   . exact lv [] [0] ho
 . cases ho; exact id (zaF [0] [] (.inl rfl) .n rfl (by decide))
theorem zbH {data_0 a_1 m_2 b_3 cmp_4 out} (ho:zaB data_0 a_1 m_2 b_3 cmp_4=some out) (v_0:ze):zgM ktab 178 [.raw v_0,.val (zh .i64) a_1,.val (zh .i64) m_2,.val (zh .i64) b_3,.val (rFn ktab (zf×zf) (Int) (λx=>[.val zg (x.1),.val zg (x.2)]) (λy=>[.val (zh .i64) (y)])) cmp_4] [(v_0,.row zg (data_0))] [] (λγ=>[(v_0,.row zg (out))]):=by
 refine zdN (F:=Tryz.f178) (by rfl) (by rfl) (by rfl) (λC=>?_);delta zaB at ho;obtain ⟨ta,ha,ho⟩:=bnd ho;refine glp ha [0,2,4] [] [0] (λs g=>([(10,vI s.1),(11,vI s.2.1)],[(v_0,.row zg s.2.2)])) (λb=>(.exit 0,λg=>([(10,vI b.1)],[(v_0,.row zg b.2)]))) [] (λsa ga _ ho=>?_) λgb=>?_
 . refine gct ho (λhc ho=>?_) λhc ho=>?_
   . refine gct ho (λhd ho=>?_) λhd ho=>?_
     . obtain ⟨ya,he,ho⟩:=bnd ho;refine gcm [0] [] (zaK he v_0) ?_;intro gc;show zm ..;exact lv [] [0] ho
     . obtain ⟨yb,hf,ho⟩:=bnd ho;refine gcm [0] [] (zaK hf v_0) ?_;intro gd;show zm ..;exact lv [] [0] ho
   . exact lv [] [0] ho
 . obtain ⟨yc,hg,ho⟩:=bnd ho;refine gcm [0] [] (zaK hg v_0) ?_;intro ge;show zm ..;cases ho; exact zfH (zaF [0] [] (.inl rfl) .n rfl (by decide))
theorem zcC {rec:(List zf)->Int->Int->Int->((zf×zf)->Option (Int))->Option (List zf)} (hrec:∀ {data_0 a_1 m_2 b_3 cmp_4} {out:(List zf)},rec data_0 a_1 m_2 b_3 cmp_4=some out->∀ (v_0:ze),zgM ktab 165 [.raw v_0,.val (zh .i64) a_1,.val (zh .i64) m_2,.val (zh .i64) b_3,.val (rFn ktab (zf×zf) (Int) (λx=>[.val zg (x.1),.val zg (x.2)]) (λy=>[.val (zh .i64) (y)])) cmp_4] [(v_0,.row zg (data_0))] [] (λγ=>[(v_0,.row zg (out))])) {data_0:(List zf)} {a_1:Int} {m_2:Int} {b_3:Int} {cmp_4:((zf×zf)->Option (Int))} {out:(List zf)} (ho:zaG rec data_0 a_1 m_2 b_3 cmp_4=some out) (v_0:ze):zgM ktab 165 [.raw v_0,.val (zh .i64) a_1,.val (zh .i64) m_2,.val (zh .i64) b_3,.val (rFn ktab (zf×zf) (Int) (λx=>[.val zg (x.1),.val zg (x.2)]) (λy=>[.val (zh .i64) (y)])) cmp_4] [(v_0,.row zg (data_0))] [] (λγ=>[(v_0,.row zg (out))]):=by
 refine zdN (F:=Tryz.f165) (by rfl) (by rfl) (by rfl) (λC=>?_);delta zaG at ho;refine gct ho (λhq1 ho=>?_) λhq1 ho=>?_
 . obtain ⟨ta,ha,ho⟩:=bnd ho;refine glp ha [0,1,4] [0] [0] (λs g=>([(10,vI s.1),(11,vI s.2)],[])) (λb=>(.exit 0,λg=>([(10,vI b)],[]))) [] (λsa ga _ ho=>?_) λgb=>?_
   . refine gct ho (λhc ho=>?_) λhc ho=>?_
     . obtain ⟨xa,haE,ho⟩:=bnd ho;refine run 13 ?_;refine zao [4,8] (by kernel_rfl) ?_;obtain ⟨xb,haF,xd,haG,ya,hd,ho⟩:=zpQ ho;refine gcv hd ?_;refine gct ho (λhe ho=>?_) λhe ho=>?_
       . exact lv [] [0] ho
       . exact lv [] [0] ho
     . exact lv [] [0] ho
   . obtain ⟨tb,hf,ho⟩:=bnd ho;refine glp hf [0,10] [] [0] (λs g=>([(13,vI s.1)],[(v_0,.row zg s.2)])) (λb=>(.exit 2,λg=>([],[(v_0,.row zg b)]))) [] (λsb gc _ ho=>?_) λgd=>?_
     . refine gct ho (λhg ho=>?_) λhg ho=>?_
       . refine run 3 ?_;refine zao [9,13] (by kernel_rfl) ?_;obtain ⟨xe,haH,xf,haI,ho⟩:=zfI ho;refine run 14 ?_;obtain ⟨xg,haJ,xh,haK,ho⟩:=zfI ho;exact lv [] [0] ho
       . exact lv [] [0] ho
     . cases ho; exact zea (zaF [0] [] (.inr rfl) .n rfl (by decide))
 . refine gct ho (λhh ho=>?_) λhh ho=>?_
   . obtain ⟨tc,hi,ho⟩:=bnd ho;refine glp hi [0,2,4] [0] [0] (λs g=>([(14,vI s.1),(15,vI s.2)],[])) (λb=>(.exit 4,λg=>([(14,vI b)],[]))) [] (λsc ge _ ho=>?_) λgf=>?_
     . refine gct ho (λhj ho=>?_) λhj ho=>?_
       . obtain ⟨xi,haL,ho⟩:=bnd ho;refine run 13 ?_;refine zao [4,8] (by kernel_rfl) ?_;obtain ⟨xj,haM,xk,haN,yb,hk,ho⟩:=zpQ ho;refine gcv hk ?_;refine gct ho (λhl ho=>?_) λhl ho=>?_
         . exact lv [] [0] ho
         . exact lv [] [0] ho
       . exact lv [] [0] ho
     . obtain ⟨td,hm,ho⟩:=bnd ho;refine glp hm [0,14] [] [0] (λs g=>([(17,vI s.1)],[(v_0,.row zg s.2)])) (λb=>(.exit 6,λg=>([],[(v_0,.row zg b)]))) [] (λsd gg _ ho=>?_) λgh=>?_
       . refine gct ho (λhn ho=>?_) λhn ho=>?_
         . refine run 3 ?_;refine zao [9,13] (by kernel_rfl) ?_;obtain ⟨xl,haO,xm,haP,ho⟩:=zfI ho;refine run 14 ?_;obtain ⟨xn,haQ,xo,haR,ho⟩:=zfI ho;exact lv [] [0] ho
         . exact lv [] [0] ho
       . cases ho; exact zea (zaF [0] [] (.inr rfl) .n rfl (by decide))
   . obtain ⟨xp,haS,ho⟩:=bnd ho;refine gct ho (λhp ho=>?_) λhp ho=>?_
     . obtain ⟨te,hr,ho⟩:=bnd ho;refine glp hr [0,1,2,3,4,18,19,22] [0] [0] (λs g=>([(20,vI s.1),(21,vI s.2)],[])) (λb=>(.exit 8,λg=>([(20,vI b)],[]))) [] (λse gi _ ho=>?_) λgj=>?_
       . refine gct ho (λhs ho=>?_) λhs ho=>?_
         . obtain ⟨xq,haT,ho⟩:=bnd ho;refine run 13 ?_;refine zao [6,10] (by kernel_rfl) ?_;obtain ⟨xr,haU,xt,haV,yc,ht,ho⟩:=zpQ ho;refine gcv ht ?_;refine gct ho (λhu ho=>?_) λhu ho=>?_
           . exact lv [] [0] ho
           . exact lv [] [0] ho
         . exact lv [] [0] ho
       . obtain ⟨ca,hv,ho⟩:=bnd ho;refine run 9 ?_;refine gcx ca [0,1,2,3,4,18,20,24] [0] (λt=>(.normal,λ_=>([(185,vB t)],[]))) ?_ λ_=>?_
         . have ho:=hv;refine wbr ho (λhw ho=>?_) λhw ho=>?_
           . exact lv [] [0] ho
           . exact lv [] [0] ho
         . refine gct ho (λhy ho=>?_) λhy ho=>?_
           . obtain ⟨yd,hz,ho⟩:=bnd ho;refine gcm [0] [] (zbH hz v_0) ?_;intro gk;show zm ..;obtain ⟨cc,hA,ho⟩:=bnd ho;refine run 3 ?_;refine gcx cc [0,1,3,4,18,20,24] [0] (λt=>(.normal,λ_=>([(199,vB t)],[]))) ?_ λ_=>?_
             . have ho:=hA;refine wbr ho (λhB ho=>?_) λhB ho=>?_
               . exact lv [] [0] ho
               . exact lv [] [0] ho
             . refine gct ho (λhC ho=>?_) λhC ho=>?_
               . obtain ⟨ye,hD,ho⟩:=bnd ho;refine gcm [0] [] (hrec hD v_0) ?_;intro gl;show zm ..;obtain ⟨cd,hE,ho⟩:=bnd ho;refine run 2 ?_;refine gcx cd [0,3,4,18,24] [0] (λt=>(.normal,λ_=>([(213,vB t)],[]))) ?_ λ_=>?_
                 . have ho:=hE;refine wbr ho (λhF ho=>?_) λhF ho=>?_
                   . exact lv [] [0] ho
                   . exact lv [] [0] ho
                 . refine gct ho (λhG ho=>?_) λhG ho=>?_
                   . obtain ⟨yf,hH,ho⟩:=bnd ho;refine gcm [0] [] (hrec hH v_0) ?_;intro gm;show zm ..;cases ho; exact zfH (zaF [0] [] (.inl rfl) .n rfl (by decide))
                   . cases ho; exact zf9 (zaF [0] [] (.inl rfl) .n rfl (by decide))
               . obtain ⟨ce,hI,ho⟩:=bnd ho;refine run 2 ?_;refine gcx ce [0,3,4,18,24] [0] (λt=>(.normal,λ_=>([(213,vB t)],[]))) ?_ λ_=>?_
                 . have ho:=hI;refine wbr ho (λhJ ho=>?_) λhJ ho=>?_
                   . exact lv [] [0] ho
                   . exact lv [] [0] ho
                 . refine gct ho (λhK ho=>?_) λhK ho=>?_
                   . obtain ⟨yg,hL,ho⟩:=bnd ho;refine gcm [0] [] (hrec hL v_0) ?_;intro gn;show zm ..;cases ho; exact zfH (zaF [0] [] (.inl rfl) .n rfl (by decide))
                   . cases ho; exact zf9 (zaF [0] [] (.inl rfl) .n rfl (by decide))
           . obtain ⟨cf,hM,ho⟩:=bnd ho;refine run 3 ?_;refine gcx cf [0,1,3,4,18,20,24] [0] (λt=>(.normal,λ_=>([(199,vB t)],[]))) ?_ λ_=>?_
             . have ho:=hM;refine wbr ho (λhN ho=>?_) λhN ho=>?_
               . exact lv [] [0] ho
               . exact lv [] [0] ho
             . refine gct ho (λhO ho=>?_) λhO ho=>?_
               . obtain ⟨yh,hP,ho⟩:=bnd ho;refine gcm [0] [] (hrec hP v_0) ?_;intro gp;show zm ..;obtain ⟨cg,hQ,ho⟩:=bnd ho;refine run 2 ?_;refine gcx cg [0,3,4,18,24] [0] (λt=>(.normal,λ_=>([(213,vB t)],[]))) ?_ λ_=>?_
                 . have ho:=hQ;refine wbr ho (λhR ho=>?_) λhR ho=>?_
                   . exact lv [] [0] ho
                   . exact lv [] [0] ho
                 . refine gct ho (λhS ho=>?_) λhS ho=>?_
                   . obtain ⟨yi,hT,ho⟩:=bnd ho;refine gcm [0] [] (hrec hT v_0) ?_;intro gq;show zm ..;cases ho; exact zfH (zaF [0] [] (.inl rfl) .n rfl (by decide))
                   . cases ho; exact zf9 (zaF [0] [] (.inl rfl) .n rfl (by decide))
               . obtain ⟨ch,hU,ho⟩:=bnd ho;refine run 2 ?_;refine gcx ch [0,3,4,18,24] [0] (λt=>(.normal,λ_=>([(213,vB t)],[]))) ?_ λ_=>?_
                 . have ho:=hU;refine wbr ho (λhV ho=>?_) λhV ho=>?_
                   . exact lv [] [0] ho
                   . exact lv [] [0] ho
                 . refine gct ho (λhW ho=>?_) λhW ho=>?_
                   . obtain ⟨yj,hX,ho⟩:=bnd ho;refine gcm [0] [] (hrec hX v_0) ?_;intro gr;show zm ..;cases ho; exact zfH (zaF [0] [] (.inl rfl) .n rfl (by decide))
                   . cases ho; exact zf9 (zaF [0] [] (.inl rfl) .n rfl (by decide))
     . obtain ⟨tf,hY,ho⟩:=bnd ho;refine glp hY [0,1,2,3,4,18,19,22] [0] [0] (λs g=>([(20,vI s.1),(21,vI s.2)],[])) (λb=>(.exit 8,λg=>([(20,vI b)],[]))) [] (λsf gs _ ho=>?_) λgt=>?_
       . refine gct ho (λhZ ho=>?_) λhZ ho=>?_
         . obtain ⟨xu,haW,ho⟩:=bnd ho;refine run 13 ?_;refine zao [6,10] (by kernel_rfl) ?_;obtain ⟨xv,haX,xw,haY,yk,haa,ho⟩:=zpQ ho;refine gcv haa ?_;refine gct ho (λhab ho=>?_) λhab ho=>?_
           . exact lv [] [0] ho
           . exact lv [] [0] ho
         . exact lv [] [0] ho
       . obtain ⟨ci,hac,ho⟩:=bnd ho;refine run 9 ?_;refine gcx ci [0,1,2,3,4,18,20,24] [0] (λt=>(.normal,λ_=>([(185,vB t)],[]))) ?_ λ_=>?_
         . have ho:=hac;refine wbr ho (λhad ho=>?_) λhad ho=>?_
           . exact lv [] [0] ho
           . exact lv [] [0] ho
         . refine gct ho (λhae ho=>?_) λhae ho=>?_
           . obtain ⟨yl,haf,ho⟩:=bnd ho;refine gcm [0] [] (zbH haf v_0) ?_;intro gu;show zm ..;obtain ⟨cj,hag,ho⟩:=bnd ho;refine run 3 ?_;refine gcx cj [0,1,3,4,18,20,24] [0] (λt=>(.normal,λ_=>([(199,vB t)],[]))) ?_ λ_=>?_
             . have ho:=hag;refine wbr ho (λhah ho=>?_) λhah ho=>?_
               . exact lv [] [0] ho
               . exact lv [] [0] ho
             . refine gct ho (λhai ho=>?_) λhai ho=>?_
               . obtain ⟨ym,haj,ho⟩:=bnd ho;refine gcm [0] [] (hrec haj v_0) ?_;intro gv;show zm ..;obtain ⟨ck,hak,ho⟩:=bnd ho;refine run 2 ?_;refine gcx ck [0,3,4,18,24] [0] (λt=>(.normal,λ_=>([(213,vB t)],[]))) ?_ λ_=>?_
                 . have ho:=hak;refine wbr ho (λhal ho=>?_) λhal ho=>?_
                   . exact lv [] [0] ho
                   . exact lv [] [0] ho
                 . refine gct ho (λham ho=>?_) λham ho=>?_
                   . obtain ⟨yn,han,ho⟩:=bnd ho;refine gcm [0] [] (hrec han v_0) ?_;intro gw;show zm ..;cases ho; exact zfH (zaF [0] [] (.inl rfl) .n rfl (by decide))
                   . cases ho; exact zf9 (zaF [0] [] (.inl rfl) .n rfl (by decide))
               . obtain ⟨cl,hao,ho⟩:=bnd ho;refine run 2 ?_;refine gcx cl [0,3,4,18,24] [0] (λt=>(.normal,λ_=>([(213,vB t)],[]))) ?_ λ_=>?_
                 . have ho:=hao;refine wbr ho (λhap ho=>?_) λhap ho=>?_
                   . exact lv [] [0] ho
                   . exact lv [] [0] ho
                 . refine gct ho (λhaq ho=>?_) λhaq ho=>?_
                   . obtain ⟨yo,har,ho⟩:=bnd ho;refine gcm [0] [] (hrec har v_0) ?_;intro gx;show zm ..;cases ho; exact zfH (zaF [0] [] (.inl rfl) .n rfl (by decide))
                   . cases ho; exact zf9 (zaF [0] [] (.inl rfl) .n rfl (by decide))
           . obtain ⟨cm,has,ho⟩:=bnd ho;refine run 3 ?_;refine gcx cm [0,1,3,4,18,20,24] [0] (λt=>(.normal,λ_=>([(199,vB t)],[]))) ?_ λ_=>?_
             . have ho:=has;refine wbr ho (λhat ho=>?_) λhat ho=>?_
               . exact lv [] [0] ho
               . exact lv [] [0] ho
             . refine gct ho (λhau ho=>?_) λhau ho=>?_
               . obtain ⟨yp,hav,ho⟩:=bnd ho;refine gcm [0] [] (hrec hav v_0) ?_;intro gy;show zm ..;obtain ⟨cn,haw,ho⟩:=bnd ho;refine run 2 ?_;refine gcx cn [0,3,4,18,24] [0] (λt=>(.normal,λ_=>([(213,vB t)],[]))) ?_ λ_=>?_
                 . have ho:=haw;refine wbr ho (λhax ho=>?_) λhax ho=>?_
                   . exact lv [] [0] ho
                   . exact lv [] [0] ho
                 . refine gct ho (λhay ho=>?_) λhay ho=>?_
                   . obtain ⟨yq,haz,ho⟩:=bnd ho;refine gcm [0] [] (hrec haz v_0) ?_;intro gz;show zm ..;cases ho; exact zfH (zaF [0] [] (.inl rfl) .n rfl (by decide))
                   . cases ho; exact zf9 (zaF [0] [] (.inl rfl) .n rfl (by decide))
               . obtain ⟨co,haA,ho⟩:=bnd ho;refine run 2 ?_;refine gcx co [0,3,4,18,24] [0] (λt=>(.normal,λ_=>([(213,vB t)],[]))) ?_ λ_=>?_
                 . have ho:=haA;refine wbr ho (λhaB ho=>?_) λhaB ho=>?_
                   . exact lv [] [0] ho
                   . exact lv [] [0] ho
                 . refine gct ho (λhaC ho=>?_) λhaC ho=>?_
                   . obtain ⟨yr,haD,ho⟩:=bnd ho;refine gcm [0] [] (hrec haD v_0) ?_;intro gA;show zm ..;cases ho; exact zfH (zaF [0] [] (.inl rfl) .n rfl (by decide))
                   . cases ho; exact zf9 (zaF [0] [] (.inl rfl) .n rfl (by decide))
theorem zbx {k:Nat} {data_0 a_1 m_2 b_3 cmp_4 out} (ho:zar k data_0 a_1 m_2 b_3 cmp_4=some out) (v_0:ze):zgM ktab 165 [.raw v_0,.val (zh .i64) a_1,.val (zh .i64) m_2,.val (zh .i64) b_3,.val (rFn ktab (zf×zf) (Int) (λx=>[.val zg (x.1),.val zg (x.2)]) (λy=>[.val (zh .i64) (y)])) cmp_4] [(v_0,.row zg (data_0))] [] (λγ=>[(v_0,.row zg (out))]):=by
 induction k generalizing data_0 a_1 m_2 b_3 cmp_4 out v_0 with
 | zero=>cases ho
 | succ k ih=>exact zcC (λh v_0=>ih h v_0) ho v_0
theorem zdy {data_0 n_1 cmp_2 out} (ho:za0 data_0 n_1 cmp_2=some out) (v_0:ze):zgM ktab 143 [.raw v_0,.val (zh .i64) n_1,.val (rFn ktab (zf×zf) (Int) (λx=>[.val zg (x.1),.val zg (x.2)]) (λy=>[.val (zh .i64) (y)])) cmp_2] [(v_0,.row zg (data_0))] [] (λγ=>[(v_0,.row zg (out))]):=by
 refine zdN (F:=Tryz.f143) (by rfl) (by rfl) (by rfl) (λC=>?_);delta za0 at ho;obtain ⟨ta,ha,ho⟩:=bnd ho;refine glp ha [0,1,2,6] [] [0] (λs g=>([(7,vI s.1),(8,vI s.2.1)],[(v_0,.row zg s.2.2)])) (λb=>(.exit 0,λg=>([(7,vI b.1)],[(v_0,.row zg b.2)]))) [] (λs7 g8 _ ho=>?_) λga=>?_
 . refine gct ho (λhq9 ho=>?_) λhq9 ho=>?_
   . obtain ⟨ya,hc,ho⟩:=bnd ho;refine gcm [0] [] (za1 hc v_0) ?_;intro gb;show zm ..;exact lv [] [0] ho
   . exact lv [] [0] ho
 . obtain ⟨yb,hd,ho⟩:=bnd ho;refine gcm [0] [] (za1 hd v_0) ?_;intro gc;show zm ..;obtain ⟨tb,he,ho⟩:=bnd ho;refine glp he [0,1,2] [] [0] (λs g=>([(6,vI s.1)],[(v_0,.row zg s.2)])) (λb=>(.exit 2,λg=>([],[(v_0,.row zg b)]))) [] (λsa gd _ ho=>?_) λge=>?_
   . refine gct ho (λhf ho=>?_) λhf ho=>?_
     . obtain ⟨tc,hg,ho⟩:=bnd ho;refine glp hg [0,1,2,6] [] [0] (λs g=>([(7,vI s.1),(8,vI s.2.1)],[(v_0,.row zg s.2.2)])) (λb=>(.exit 4,λg=>([(7,vI b.1)],[(v_0,.row zg b.2)]))) [] (λsb gf _ ho=>?_) λgg=>?_
       . refine gct ho (λhh ho=>?_) λhh ho=>?_
         . obtain ⟨yc,hi,ho⟩:=bnd ho;refine gcm [0] [] (zbx hi v_0) ?_;intro gh;show zm ..;exact lv [] [0] ho
         . exact lv [] [0] ho
       . refine gct ho (λhj ho=>?_) λhj ho=>?_
         . obtain ⟨yd,hk,ho⟩:=bnd ho;refine gcm [0] [] (zbx hk v_0) ?_;intro gi;show zm ..;exact lv [] [0] ho
         . exact lv [] [0] ho
     . exact lv [] [0] ho
   . cases ho; exact id (zaF [0] [] (.inl rfl) .n rfl (by decide))
theorem zbX {x_0 cmp_1 out} (ho:zak x_0 cmp_1=some out) (v_0:ze):zgM ktab 118 [.raw v_0,.val (rFn ktab (zf×zf) (Int) (λx=>[.val zg (x.1),.val zg (x.2)]) (λy=>[.val (zh .i64) (y)])) cmp_1] [(v_0,.row zg (x_0))] [] (λγ=>[(v_0,.row zg (out))]):=by
 refine zdN (F:=Tryz.f118) (by rfl) (by rfl) (by rfl) (λC=>?_);delta zak at ho;obtain ⟨y1,hy1,ho⟩:=bnd ho;refine gcm [0] [] (zdy hy1 v_0) ?_;intro g2;show zm ..;cases ho; exact zfH (zaF [0] [] (.inl rfl) .n rfl (by decide))
theorem ze7 {l_0 order_1 out} (ho:zbZ l_0 order_1=some out) (v_0:ze):zgM ktab 85 [.raw v_0,.val (rFn ktab (zf×zf) (Int) (λx=>[.val zg (x.1),.val zg (x.2)]) (λy=>[.val (zh .i64) (y)])) order_1] [(v_0,.row zg (l_0))] [.row zg (out)] (λγ=>[]):=by
 refine zdN (F:=Tryz.f85) (by rfl) (by rfl) (by rfl) (λC=>?_);delta zbZ at ho;refine gnr zg ?_;obtain ⟨y1,hy1,ho⟩:=bnd ho;refine gcm [1] [0] (zbX hy1 v_0) ?_;intro g2;show zm ..;refine run 6 ?_;cases ho; exact zea (zaF [] [] (.inr rfl) (.r 0 rfl rfl .n) rfl (by decide))
instance i71 {x_0}:FI ktab 71 (zbT x_0) [vI x_0] (λout=>[wB out]):=fw
instance i37 {x_0 y_1}:FI ktab 37 (zcw x_0 y_1) [vI x_0,vI y_1] (λout=>[wI out]):=fw
instance i87 {vals_0}:FI ktab 87 (zfT vals_0) [.val (zd (zh .i64)) vals_0] (λout=>[wI out]):=⟨λout ho=>by
 delta zfT at ho;refine fn λ_ _=>?_;obtain ⟨t9,ht9,ho⟩:=bnd ho;refine gl2 ht9 ho [3,6,7] [] [] (λs g=>([(8,vI s)],[])) (λb=>(.exit 0,λg=>([],[]))) (λb=>(.ret,λg=>([(2,vI b)],[]))) [] (λs4 g5 _ ho=>?_) (λba ho ga=>?_) λbb ho ga=>?_
 . exact we ho
 . exact we ho
 . exact rv ho⟩
instance i88 {a_0 b_1}:FI ktab 88 (zgB a_0 b_1) [.val zr a_0,.val zr b_1] (λout=>[wI out]):=fw
instance i86 {a_0 b_1}:FI ktab 86 (zdc a_0 b_1) [.val zg a_0,.val zg b_1] (λout=>[wI out]):=⟨λout ho=>by
 delta zdc at ho;refine fn λ_ _=>?_;obtain ⟨x6,hx6,x7,hx7,ho⟩:=zfI ho;refine gcl ho λy8 hy8 ho=>?_;refine gcl ho λy9 hy9 ho=>?_;refine gcl ho λya hc ho=>?_;obtain ⟨ca,ha,ho⟩:=bnd ho;refine run 3 ?_;refine gcx ca [5,6,7] [] (λt=>(.normal,λ_=>([(34,vB t)],[]))) ?_ λ_=>?_
 . exact we ha
 . exact we ho⟩
end Go.Ai.TabYtghlaibcihhbcaaGreat