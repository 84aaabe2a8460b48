/- Written by program: the data of the functions,and the functions as plain Lean. -/
import Derived.Test.YtppebpagcocogaaGreatQ7
set_option linter.unusedSimpArgs false
set_option linter.unusedVariables false
set_option linter.unusedSectionVars false
namespace Go.Ai.Sx
abbrev Spot:Type:=Int×Int×Unit
abbrev zq:Type:=Int×Bool×Unit
abbrev zbT:Type:=Spot×Int×(List zq)×Int×Unit
abbrev Rail:Type:=Int×Int×(List Spot)×Int×Int×Unit
abbrev Plan:Type:=(List zbT)×(List Rail)×Unit
abbrev zR:Type:=Int×Bool×Unit
abbrev Course:Type:=(List zR)×(List Int)×(List Int)×Unit
abbrev Train:Type:=Int×Int×Int×Int×Int×Int×Int×Int×Int×(List Int)×Unit
abbrev Line:Type:=Course×Course×Train×Int×Int×Unit
abbrev zaO:Type:=Plan×(List Int)×(List (zq×Int))×Unit
abbrev zih:Type:=Plan×Unit×zi×Unit
abbrev zaf:Type:=zbT×Unit
abbrev zab:Type:=Train×Int×Unit
abbrev zav:Type:=zab×(List zR)×(List Int)×(List Int)×(List Int)×(List Int)×Unit
abbrev zjX:Type:=zab×(List zR)×Unit×Unit×Unit×(List Int)×Unit
abbrev zf:Type:=Int×Int×Unit
abbrev zam:Type:=Int×Int×Int×Int×Int×Int×Unit
abbrev zbF:Type:=zf×zam×Int×Int×Unit
abbrev Leg:Type:=Int×Int×zam×Int×Int×Unit
abbrev zL:Type:=Line×(List (List Int))×(List (List Int))×Unit
abbrev zac:Type:=Plan×(List zR)×Train×Int×Int×Unit
abbrev Cover:Type:=Int×Int×Int×Unit
abbrev Service:Type:=(List Line)×(List Int)×(List Int)×Unit
abbrev Connection:Type:=Int×Bool×Int×Int×Bool×Int×Int×Int×Unit
abbrev Works:Type:=Int×Int×Int×Unit
abbrev Trip:Type:=Int×Bool×Int×Int×Unit
abbrev zjk:Type:=Unit
abbrev zbc:Rep Spot:=(zO (zj .i64) (zO (zj .i64) zcA))
theorem zq3:FOk zbc 0 (zj .i64) (fun x=>x.1) (fun x y=>(y,x.2.1,())):=FOk.off FOk.here rfl
theorem zq4:FOk zbc 1 (zj .i64) (fun x=>x.2.1) (fun x y=>(x.1,y,())):=FOk.off (FOk.there FOk.here) rfl
abbrev zA:Rep zq:=(zO (zj .i64) (zO zB zcA))
theorem zmv:FOk zA 0 (zj .i64) (fun x=>x.1) (fun x y=>(y,x.2.1,())):=FOk.off FOk.here rfl
theorem zmw:FOk zA 1 zB (fun x=>x.2.1) (fun x y=>(x.1,y,())):=FOk.off (FOk.there FOk.here) rfl
abbrev zax:Rep zbT:=(zO zbc (zO (zj .i64) (zO (zg zA) (zO (zj .i64) zcA))))
theorem zpk:FOk zax 0 zbc (fun x=>x.1) (fun x y=>(y,x.2.1,x.2.2.1,x.2.2.2.1,())):=FOk.off FOk.here rfl
theorem zpl:FOk zax 2 (zj .i64) (fun x=>x.2.1) (fun x y=>(x.1,y,x.2.2.1,x.2.2.2.1,())):=FOk.off (FOk.there FOk.here) rfl
theorem zpm:FOk zax 3 (zg zA) (fun x=>x.2.2.1) (fun x y=>(x.1,x.2.1,y,x.2.2.2.1,())):=FOk.off (FOk.there (FOk.there FOk.here)) rfl
theorem zpn:FOk zax 4 (zj .i64) (fun x=>x.2.2.2.1) (fun x y=>(x.1,x.2.1,x.2.2.1,y,())):=FOk.off (FOk.there (FOk.there (FOk.there FOk.here))) rfl
abbrev zbJ:Rep Rail:=(zO (zj .i64) (zO (zj .i64) (zO (zg zbc) (zO (zj .i64) (zO (zj .i64) zcA)))))
theorem zq5:FOk zbJ 0 (zj .i64) (fun x=>x.1) (fun x y=>(y,x.2.1,x.2.2.1,x.2.2.2.1,x.2.2.2.2.1,())):=FOk.off FOk.here rfl
theorem zq6:FOk zbJ 1 (zj .i64) (fun x=>x.2.1) (fun x y=>(x.1,y,x.2.2.1,x.2.2.2.1,x.2.2.2.2.1,())):=FOk.off (FOk.there FOk.here) rfl
theorem zq7:FOk zbJ 2 (zg zbc) (fun x=>x.2.2.1) (fun x y=>(x.1,x.2.1,y,x.2.2.2.1,x.2.2.2.2.1,())):=FOk.off (FOk.there (FOk.there FOk.here)) rfl
theorem zq8:FOk zbJ 3 (zj .i64) (fun x=>x.2.2.2.1) (fun x y=>(x.1,x.2.1,x.2.2.1,y,x.2.2.2.2.1,())):=FOk.off (FOk.there (FOk.there (FOk.there FOk.here))) rfl
theorem zq9:FOk zbJ 4 (zj .i64) (fun x=>x.2.2.2.2.1) (fun x y=>(x.1,x.2.1,x.2.2.1,x.2.2.2.1,y,())):=FOk.off (FOk.there (FOk.there (FOk.there (FOk.there FOk.here)))) rfl
abbrev zaJ:Rep Plan:=(zO (zg zax) (zO (zg zbJ) zcA))
theorem zra:FOk zaJ 0 (zg zax) (fun x=>x.1) (fun x y=>(y,x.2.1,())):=FOk.off FOk.here rfl
theorem zrb:FOk zaJ 1 (zg zbJ) (fun x=>x.2.1) (fun x y=>(x.1,y,())):=FOk.off (FOk.there FOk.here) rfl
abbrev zy:Rep zR:=(zO (zj .i64) (zO zB zcA))
theorem zpo:FOk zy 0 (zj .i64) (fun x=>x.1) (fun x y=>(y,x.2.1,())):=FOk.off FOk.here rfl
theorem zpp:FOk zy 1 zB (fun x=>x.2.1) (fun x y=>(x.1,y,())):=FOk.off (FOk.there FOk.here) rfl
abbrev zbo:Rep Course:=(zO (zg zy) (zO (zg (zj .i64)) (zO (zg (zj .i64)) zcA)))
theorem znx:FOk zbo 0 (zg zy) (fun x=>x.1) (fun x y=>(y,x.2.1,x.2.2.1,())):=FOk.off FOk.here rfl
theorem zny:FOk zbo 1 (zg (zj .i64)) (fun x=>x.2.1) (fun x y=>(x.1,y,x.2.2.1,())):=FOk.off (FOk.there FOk.here) rfl
theorem znz:FOk zbo 2 (zg (zj .i64)) (fun x=>x.2.2.1) (fun x y=>(x.1,x.2.1,y,())):=FOk.off (FOk.there (FOk.there FOk.here)) rfl
abbrev zaB:Rep Train:=(zO (zj .i64) (zO (zj .i64) (zO (zj .i64) (zO (zj .i64) (zO (zj .i64) (zO (zj .i64) (zO (zj .i64) (zO (zj .i64) (zO (zj .i64) (zO (zg (zj .i64)) zcA))))))))))
theorem zpq:FOk zaB 0 (zj .i64) (fun x=>x.1) (fun x y=>(y,x.2.1,x.2.2.1,x.2.2.2.1,x.2.2.2.2.1,x.2.2.2.2.2.1,x.2.2.2.2.2.2.1,x.2.2.2.2.2.2.2.1,x.2.2.2.2.2.2.2.2.1,x.2.2.2.2.2.2.2.2.2.1,())):=FOk.off FOk.here rfl
theorem zpr:FOk zaB 1 (zj .i64) (fun x=>x.2.1) (fun x y=>(x.1,y,x.2.2.1,x.2.2.2.1,x.2.2.2.2.1,x.2.2.2.2.2.1,x.2.2.2.2.2.2.1,x.2.2.2.2.2.2.2.1,x.2.2.2.2.2.2.2.2.1,x.2.2.2.2.2.2.2.2.2.1,())):=FOk.off (FOk.there FOk.here) rfl
theorem zps:FOk zaB 2 (zj .i64) (fun x=>x.2.2.1) (fun x y=>(x.1,x.2.1,y,x.2.2.2.1,x.2.2.2.2.1,x.2.2.2.2.2.1,x.2.2.2.2.2.2.1,x.2.2.2.2.2.2.2.1,x.2.2.2.2.2.2.2.2.1,x.2.2.2.2.2.2.2.2.2.1,())):=FOk.off (FOk.there (FOk.there FOk.here)) rfl
theorem zpt:FOk zaB 3 (zj .i64) (fun x=>x.2.2.2.1) (fun x y=>(x.1,x.2.1,x.2.2.1,y,x.2.2.2.2.1,x.2.2.2.2.2.1,x.2.2.2.2.2.2.1,x.2.2.2.2.2.2.2.1,x.2.2.2.2.2.2.2.2.1,x.2.2.2.2.2.2.2.2.2.1,())):=FOk.off (FOk.there (FOk.there (FOk.there FOk.here))) rfl
theorem zpu:FOk zaB 4 (zj .i64) (fun x=>x.2.2.2.2.1) (fun x y=>(x.1,x.2.1,x.2.2.1,x.2.2.2.1,y,x.2.2.2.2.2.1,x.2.2.2.2.2.2.1,x.2.2.2.2.2.2.2.1,x.2.2.2.2.2.2.2.2.1,x.2.2.2.2.2.2.2.2.2.1,())):=FOk.off (FOk.there (FOk.there (FOk.there (FOk.there FOk.here)))) rfl
theorem zpv:FOk zaB 5 (zj .i64) (fun x=>x.2.2.2.2.2.1) (fun x y=>(x.1,x.2.1,x.2.2.1,x.2.2.2.1,x.2.2.2.2.1,y,x.2.2.2.2.2.2.1,x.2.2.2.2.2.2.2.1,x.2.2.2.2.2.2.2.2.1,x.2.2.2.2.2.2.2.2.2.1,())):=FOk.off (FOk.there (FOk.there (FOk.there (FOk.there (FOk.there FOk.here))))) rfl
theorem zpw:FOk zaB 6 (zj .i64) (fun x=>x.2.2.2.2.2.2.1) (fun x y=>(x.1,x.2.1,x.2.2.1,x.2.2.2.1,x.2.2.2.2.1,x.2.2.2.2.2.1,y,x.2.2.2.2.2.2.2.1,x.2.2.2.2.2.2.2.2.1,x.2.2.2.2.2.2.2.2.2.1,())):=FOk.off (FOk.there (FOk.there (FOk.there (FOk.there (FOk.there (FOk.there FOk.here)))))) rfl
theorem zpx:FOk zaB 7 (zj .i64) (fun x=>x.2.2.2.2.2.2.2.1) (fun x y=>(x.1,x.2.1,x.2.2.1,x.2.2.2.1,x.2.2.2.2.1,x.2.2.2.2.2.1,x.2.2.2.2.2.2.1,y,x.2.2.2.2.2.2.2.2.1,x.2.2.2.2.2.2.2.2.2.1,())):=FOk.off (FOk.there (FOk.there (FOk.there (FOk.there (FOk.there (FOk.there (FOk.there FOk.here))))))) rfl
theorem zpy:FOk zaB 8 (zj .i64) (fun x=>x.2.2.2.2.2.2.2.2.1) (fun x y=>(x.1,x.2.1,x.2.2.1,x.2.2.2.1,x.2.2.2.2.1,x.2.2.2.2.2.1,x.2.2.2.2.2.2.1,x.2.2.2.2.2.2.2.1,y,x.2.2.2.2.2.2.2.2.2.1,())):=FOk.off (FOk.there (FOk.there (FOk.there (FOk.there (FOk.there (FOk.there (FOk.there (FOk.there FOk.here)))))))) rfl
theorem zpz:FOk zaB 9 (zg (zj .i64)) (fun x=>x.2.2.2.2.2.2.2.2.2.1) (fun x y=>(x.1,x.2.1,x.2.2.1,x.2.2.2.1,x.2.2.2.2.1,x.2.2.2.2.2.1,x.2.2.2.2.2.2.1,x.2.2.2.2.2.2.2.1,x.2.2.2.2.2.2.2.2.1,y,())):=FOk.off (FOk.there (FOk.there (FOk.there (FOk.there (FOk.there (FOk.there (FOk.there (FOk.there (FOk.there FOk.here))))))))) rfl
abbrev zbO:Rep Line:=(zO zbo (zO zbo (zO zaB (zO (zj .i64) (zO (zj .i64) zcA)))))
theorem zrc:FOk zbO 0 zbo (fun x=>x.1) (fun x y=>(y,x.2.1,x.2.2.1,x.2.2.2.1,x.2.2.2.2.1,())):=FOk.off FOk.here rfl
theorem zrd:FOk zbO 3 zbo (fun x=>x.2.1) (fun x y=>(x.1,y,x.2.2.1,x.2.2.2.1,x.2.2.2.2.1,())):=FOk.off (FOk.there FOk.here) rfl
theorem zre:FOk zbO 6 zaB (fun x=>x.2.2.1) (fun x y=>(x.1,x.2.1,y,x.2.2.2.1,x.2.2.2.2.1,())):=FOk.off (FOk.there (FOk.there FOk.here)) rfl
theorem zrf:FOk zbO 16 (zj .i64) (fun x=>x.2.2.2.1) (fun x y=>(x.1,x.2.1,x.2.2.1,y,x.2.2.2.2.1,())):=FOk.off (FOk.there (FOk.there (FOk.there FOk.here))) rfl
theorem zrg:FOk zbO 17 (zj .i64) (fun x=>x.2.2.2.2.1) (fun x y=>(x.1,x.2.1,x.2.2.1,x.2.2.2.1,y,())):=FOk.off (FOk.there (FOk.there (FOk.there (FOk.there FOk.here)))) rfl
abbrev zu:Rep zaO:=(zO zaJ (zO (zg (zj .i64)) (zO (znv zA (zj .i64)) zcA)))
theorem zhc:FOk zu 0 zaJ (fun x=>x.1) (fun x y=>(y,x.2.1,x.2.2.1,())):=FOk.off FOk.here rfl
theorem zhd:FOk zu 2 (zg (zj .i64)) (fun x=>x.2.1) (fun x y=>(x.1,y,x.2.2.1,())):=FOk.off (FOk.there FOk.here) rfl
theorem zhe:FOk zu 3 (znv zA (zj .i64)) (fun x=>x.2.2.1) (fun x y=>(x.1,x.2.1,y,())):=FOk.off (FOk.there (FOk.there FOk.here)) rfl
abbrev zhH:Rep zih:=(zO zaJ (zO zsx (zO zxD zcA)))
abbrev z8:Rep zaf:=(zO zax zcA)
theorem zhf:FOk z8 0 zax (fun x=>x.1) (fun x y=>(y,())):=FOk.off FOk.here rfl
abbrev zt:Rep zab:=(zO zaB (zO (zj .i64) zcA))
theorem zhI:FOk zt 0 zaB (fun x=>x.1) (fun x y=>(y,x.2.1,())):=FOk.off FOk.here rfl
theorem zhJ:FOk zt 10 (zj .i64) (fun x=>x.2.1) (fun x y=>(x.1,y,())):=FOk.off (FOk.there FOk.here) rfl
abbrev zr:Rep zav:=(zO (zad zt) (zO (zg zy) (zO (zg (zj .i64)) (zO (zg (zj .i64)) (zO (zg (zj .i64)) (zO (zg (zj .i64)) zcA))))))
theorem zjl:FOk zr 0 (zad zt) (fun x=>x.1) (fun x y=>(y,x.2.1,x.2.2.1,x.2.2.2.1,x.2.2.2.2.1,x.2.2.2.2.2.1,())):=FOk.off FOk.here rfl
theorem zjm:FOk zr 2 (zg (zj .i64)) (fun x=>x.2.2.1) (fun x y=>(x.1,x.2.1,y,x.2.2.2.1,x.2.2.2.2.1,x.2.2.2.2.2.1,())):=FOk.off (FOk.there (FOk.there FOk.here)) rfl
theorem zjn:FOk zr 3 (zg (zj .i64)) (fun x=>x.2.2.2.1) (fun x y=>(x.1,x.2.1,x.2.2.1,y,x.2.2.2.2.1,x.2.2.2.2.2.1,())):=FOk.off (FOk.there (FOk.there (FOk.there FOk.here))) rfl
theorem zjo:FOk zr 4 (zg (zj .i64)) (fun x=>x.2.2.2.2.1) (fun x y=>(x.1,x.2.1,x.2.2.1,x.2.2.2.1,y,x.2.2.2.2.2.1,())):=FOk.off (FOk.there (FOk.there (FOk.there (FOk.there FOk.here)))) rfl
abbrev zjp:Rep zjX:=(zO (zad zt) (zO (zg zy) (zO zsx (zO zsx (zO zsx (zO (zg (zj .i64)) zcA))))))
abbrev zh:Rep zf:=(zO (zj .i64) (zO (zj .i64) zcA))
theorem zii:FOk zh 0 (zj .i64) (fun x=>x.1) (fun x y=>(y,x.2.1,())):=FOk.off FOk.here rfl
theorem zij:FOk zh 1 (zj .i64) (fun x=>x.2.1) (fun x y=>(x.1,y,())):=FOk.off (FOk.there FOk.here) rfl
abbrev zp:Rep zam:=(zO (zj .i64) (zO (zj .i64) (zO (zj .i64) (zO (zj .i64) (zO (zj .i64) (zO (zj .i64) zcA))))))
theorem zhK:FOk zp 0 (zj .i64) (fun x=>x.1) (fun x y=>(y,x.2.1,x.2.2.1,x.2.2.2.1,x.2.2.2.2.1,x.2.2.2.2.2.1,())):=FOk.off FOk.here rfl
theorem zhL:FOk zp 1 (zj .i64) (fun x=>x.2.1) (fun x y=>(x.1,y,x.2.2.1,x.2.2.2.1,x.2.2.2.2.1,x.2.2.2.2.2.1,())):=FOk.off (FOk.there FOk.here) rfl
theorem zhM:FOk zp 2 (zj .i64) (fun x=>x.2.2.1) (fun x y=>(x.1,x.2.1,y,x.2.2.2.1,x.2.2.2.2.1,x.2.2.2.2.2.1,())):=FOk.off (FOk.there (FOk.there FOk.here)) rfl
theorem zhN:FOk zp 3 (zj .i64) (fun x=>x.2.2.2.1) (fun x y=>(x.1,x.2.1,x.2.2.1,y,x.2.2.2.2.1,x.2.2.2.2.2.1,())):=FOk.off (FOk.there (FOk.there (FOk.there FOk.here))) rfl
theorem zhO:FOk zp 4 (zj .i64) (fun x=>x.2.2.2.2.1) (fun x y=>(x.1,x.2.1,x.2.2.1,x.2.2.2.1,y,x.2.2.2.2.2.1,())):=FOk.off (FOk.there (FOk.there (FOk.there (FOk.there FOk.here)))) rfl
theorem zhP:FOk zp 5 (zj .i64) (fun x=>x.2.2.2.2.2.1) (fun x y=>(x.1,x.2.1,x.2.2.1,x.2.2.2.1,x.2.2.2.2.1,y,())):=FOk.off (FOk.there (FOk.there (FOk.there (FOk.there (FOk.there FOk.here))))) rfl
abbrev zQ:Rep zbF:=(zO zh (zO zp (zO (zj .i64) (zO (zj .i64) zcA))))
theorem zgI:FOk zQ 0 zh (fun x=>x.1) (fun x y=>(y,x.2.1,x.2.2.1,x.2.2.2.1,())):=FOk.off FOk.here rfl
theorem zgJ:FOk zQ 2 zp (fun x=>x.2.1) (fun x y=>(x.1,y,x.2.2.1,x.2.2.2.1,())):=FOk.off (FOk.there FOk.here) rfl
theorem zgK:FOk zQ 8 (zj .i64) (fun x=>x.2.2.1) (fun x y=>(x.1,x.2.1,y,x.2.2.2.1,())):=FOk.off (FOk.there (FOk.there FOk.here)) rfl
theorem zgL:FOk zQ 9 (zj .i64) (fun x=>x.2.2.2.1) (fun x y=>(x.1,x.2.1,x.2.2.1,y,())):=FOk.off (FOk.there (FOk.there (FOk.there FOk.here))) rfl
abbrev zdW:Rep Leg:=(zO (zj .i64) (zO (zj .i64) (zO zp (zO (zj .i64) (zO (zj .i64) zcA)))))
theorem zom:FOk zdW 0 (zj .i64) (fun x=>x.1) (fun x y=>(y,x.2.1,x.2.2.1,x.2.2.2.1,x.2.2.2.2.1,())):=FOk.off FOk.here rfl
theorem zts:FOk zdW 1 (zj .i64) (fun x=>x.2.1) (fun x y=>(x.1,y,x.2.2.1,x.2.2.2.1,x.2.2.2.2.1,())):=FOk.off (FOk.there FOk.here) rfl
theorem ztt:FOk zdW 2 zp (fun x=>x.2.2.1) (fun x y=>(x.1,x.2.1,y,x.2.2.2.1,x.2.2.2.2.1,())):=FOk.off (FOk.there (FOk.there FOk.here)) rfl
theorem ztu:FOk zdW 8 (zj .i64) (fun x=>x.2.2.2.1) (fun x y=>(x.1,x.2.1,x.2.2.1,y,x.2.2.2.2.1,())):=FOk.off (FOk.there (FOk.there (FOk.there FOk.here))) rfl
theorem ztv:FOk zdW 9 (zj .i64) (fun x=>x.2.2.2.2.1) (fun x y=>(x.1,x.2.1,x.2.2.1,x.2.2.2.1,y,())):=FOk.off (FOk.there (FOk.there (FOk.there (FOk.there FOk.here)))) rfl
abbrev zn:Rep zL:=(zO zbO (zO (ziw 2 (zg (zj .i64))) (zO (ziw 2 (zg (zj .i64))) zcA)))
theorem zgm:FOk zn 0 zbO (fun x=>x.1) (fun x y=>(y,x.2.1,x.2.2.1,())):=FOk.off FOk.here rfl
theorem zgn:FOk zn 18 (ziw 2 (zg (zj .i64))) (fun x=>x.2.1) (fun x y=>(x.1,y,x.2.2.1,())):=FOk.off (FOk.there FOk.here) rfl
theorem zgo:FOk zn 20 (ziw 2 (zg (zj .i64))) (fun x=>x.2.2.1) (fun x y=>(x.1,x.2.1,y,())):=FOk.off (FOk.there (FOk.there FOk.here)) rfl
abbrev zK:Rep zac:=(zO zaJ (zO (zg zy) (zO zaB (zO (zj .i64) (zO (zj .i64) zcA)))))
theorem zfI:FOk zK 0 zaJ (fun x=>x.1) (fun x y=>(y,x.2.1,x.2.2.1,x.2.2.2.1,x.2.2.2.2.1,())):=FOk.off FOk.here rfl
theorem zfJ:FOk zK 2 (zg zy) (fun x=>x.2.1) (fun x y=>(x.1,y,x.2.2.1,x.2.2.2.1,x.2.2.2.2.1,())):=FOk.off (FOk.there FOk.here) rfl
theorem zfK:FOk zK 3 zaB (fun x=>x.2.2.1) (fun x y=>(x.1,x.2.1,y,x.2.2.2.1,x.2.2.2.2.1,())):=FOk.off (FOk.there (FOk.there FOk.here)) rfl
theorem zfL:FOk zK 13 (zj .i64) (fun x=>x.2.2.2.1) (fun x y=>(x.1,x.2.1,x.2.2.1,y,x.2.2.2.2.1,())):=FOk.off (FOk.there (FOk.there (FOk.there FOk.here))) rfl
theorem zfM:FOk zK 14 (zj .i64) (fun x=>x.2.2.2.2.1) (fun x y=>(x.1,x.2.1,x.2.2.1,x.2.2.2.1,y,())):=FOk.off (FOk.there (FOk.there (FOk.there (FOk.there FOk.here)))) rfl
abbrev zfh:Rep Cover:=(zO (zj .i64) (zO (zj .i64) (zO (zj .i64) zcA)))
theorem zky:FOk zfh 0 (zj .i64) (fun x=>x.1) (fun x y=>(y,x.2.1,x.2.2.1,())):=FOk.off FOk.here rfl
abbrev zcb:Rep Service:=(zO (zg zbO) (zO (zg (zj .i64)) (zO (zg (zj .i64)) zcA)))
theorem zmx:FOk zcb 0 (zg zbO) (fun x=>x.1) (fun x y=>(y,x.2.1,x.2.2.1,())):=FOk.off FOk.here rfl
theorem zmy:FOk zcb 1 (zg (zj .i64)) (fun x=>x.2.1) (fun x y=>(x.1,y,x.2.2.1,())):=FOk.off (FOk.there FOk.here) rfl
theorem zmz:FOk zcb 2 (zg (zj .i64)) (fun x=>x.2.2.1) (fun x y=>(x.1,x.2.1,y,())):=FOk.off (FOk.there (FOk.there FOk.here)) rfl
abbrev z9:Rep Connection:=(zO (zj .i64) (zO zB (zO (zj .i64) (zO (zj .i64) (zO zB (zO (zj .i64) (zO (zj .i64) (zO (zj .i64) zcA))))))))
theorem zjq:FOk z9 0 (zj .i64) (fun x=>x.1) (fun x y=>(y,x.2.1,x.2.2.1,x.2.2.2.1,x.2.2.2.2.1,x.2.2.2.2.2.1,x.2.2.2.2.2.2.1,x.2.2.2.2.2.2.2.1,())):=FOk.off FOk.here rfl
theorem zjr:FOk z9 1 zB (fun x=>x.2.1) (fun x y=>(x.1,y,x.2.2.1,x.2.2.2.1,x.2.2.2.2.1,x.2.2.2.2.2.1,x.2.2.2.2.2.2.1,x.2.2.2.2.2.2.2.1,())):=FOk.off (FOk.there FOk.here) rfl
theorem zjs:FOk z9 2 (zj .i64) (fun x=>x.2.2.1) (fun x y=>(x.1,x.2.1,y,x.2.2.2.1,x.2.2.2.2.1,x.2.2.2.2.2.1,x.2.2.2.2.2.2.1,x.2.2.2.2.2.2.2.1,())):=FOk.off (FOk.there (FOk.there FOk.here)) rfl
theorem zjt:FOk z9 3 (zj .i64) (fun x=>x.2.2.2.1) (fun x y=>(x.1,x.2.1,x.2.2.1,y,x.2.2.2.2.1,x.2.2.2.2.2.1,x.2.2.2.2.2.2.1,x.2.2.2.2.2.2.2.1,())):=FOk.off (FOk.there (FOk.there (FOk.there FOk.here))) rfl
theorem zju:FOk z9 4 zB (fun x=>x.2.2.2.2.1) (fun x y=>(x.1,x.2.1,x.2.2.1,x.2.2.2.1,y,x.2.2.2.2.2.1,x.2.2.2.2.2.2.1,x.2.2.2.2.2.2.2.1,())):=FOk.off (FOk.there (FOk.there (FOk.there (FOk.there FOk.here)))) rfl
theorem zjv:FOk z9 5 (zj .i64) (fun x=>x.2.2.2.2.2.1) (fun x y=>(x.1,x.2.1,x.2.2.1,x.2.2.2.1,x.2.2.2.2.1,y,x.2.2.2.2.2.2.1,x.2.2.2.2.2.2.2.1,())):=FOk.off (FOk.there (FOk.there (FOk.there (FOk.there (FOk.there FOk.here))))) rfl
theorem zjw:FOk z9 6 (zj .i64) (fun x=>x.2.2.2.2.2.2.1) (fun x y=>(x.1,x.2.1,x.2.2.1,x.2.2.2.1,x.2.2.2.2.1,x.2.2.2.2.2.1,y,x.2.2.2.2.2.2.2.1,())):=FOk.off (FOk.there (FOk.there (FOk.there (FOk.there (FOk.there (FOk.there FOk.here)))))) rfl
theorem zjx:FOk z9 7 (zj .i64) (fun x=>x.2.2.2.2.2.2.2.1) (fun x y=>(x.1,x.2.1,x.2.2.1,x.2.2.2.1,x.2.2.2.2.1,x.2.2.2.2.2.1,x.2.2.2.2.2.2.1,y,())):=FOk.off (FOk.there (FOk.there (FOk.there (FOk.there (FOk.there (FOk.there (FOk.there FOk.here))))))) rfl
abbrev zeW:Rep Works:=(zO (zj .i64) (zO (zj .i64) (zO (zj .i64) zcA)))
theorem zpA:FOk zeW 0 (zj .i64) (fun x=>x.1) (fun x y=>(y,x.2.1,x.2.2.1,())):=FOk.off FOk.here rfl
theorem zpB:FOk zeW 1 (zj .i64) (fun x=>x.2.1) (fun x y=>(x.1,y,x.2.2.1,())):=FOk.off (FOk.there FOk.here) rfl
theorem zpC:FOk zeW 2 (zj .i64) (fun x=>x.2.2.1) (fun x y=>(x.1,x.2.1,y,())):=FOk.off (FOk.there (FOk.there FOk.here)) rfl
abbrev zdX:Rep Trip:=(zO (zj .i64) (zO zB (zO (zj .i64) (zO (zj .i64) zcA))))
theorem zrh:FOk zdX 0 (zj .i64) (fun x=>x.1) (fun x y=>(y,x.2.1,x.2.2.1,x.2.2.2.1,())):=FOk.off FOk.here rfl
theorem zri:FOk zdX 1 zB (fun x=>x.2.1) (fun x y=>(x.1,y,x.2.2.1,x.2.2.2.1,())):=FOk.off (FOk.there FOk.here) rfl
theorem zrj:FOk zdX 2 (zj .i64) (fun x=>x.2.2.1) (fun x y=>(x.1,x.2.1,y,x.2.2.2.1,())):=FOk.off (FOk.there (FOk.there FOk.here)) rfl
theorem zrk:FOk zdX 3 (zj .i64) (fun x=>x.2.2.2.1) (fun x y=>(x.1,x.2.1,x.2.2.1,y,())):=FOk.off (FOk.there (FOk.there (FOk.there FOk.here))) rfl
abbrev zik:Rep zjk:=zcA
def zbC:List Int:=[0,1,2,2,3,3,3,3,4,4,4,4,4,4,4,4,5,5,5,5,5,5,5,5,5,5,5,5,5,5,5,5,6,6,6,6,6,6,6,6,6,6,6,6,6,6,6,6,6,6,6,6,6,6,6,6,6,6,6,6,6,6,6,6,7,7,7,7,7,7,7,7,7,7,7,7,7,7,7,7,7,7,7,7,7,7,7,7,7,7,7,7,7,7,7,7,7,7,7,7,7,7,7,7,7,7,7,7,7,7,7,7,7,7,7,7,7,7,7,7,7,7,7,7,7,7,7,7,8,8,8,8,8,8,8,8,8,8,8,8,8,8,8,8,8,8,8,8,8,8,8,8,8,8,8,8,8,8,8,8,8,8,8,8,8,8,8,8,8,8,8,8,8,8,8,8,8,8,8,8,8,8,8,8,8,8,8,8,8,8,8,8,8,8,8,8,8,8,8,8,8,8,8,8,8,8,8,8,8,8,8,8,8,8,8,8,8,8,8,8,8,8,8,8,8,8,8,8,8,8,8,8,8,8,8,8,8,8,8,8,8,8,8,8,8,8,8,8,8,8,8,8,8,8,8,8]
def zag (n_0:Int) (low_1:Int) (high_2:Int):Option (Bool) :=
Option.bind (cond ((decide (n_0≥low_1))) (some ((decide (n_0≤high_2)))) (some false)) fun c2 =>
some c2
def zba (s_0:Spot):Option (Bool) :=
Option.bind (Option.bind (zag s_0.1 ((-10000000)) 10000000) fun y5 =>
cond (y5) (Option.bind (zag s_0.2.1 ((-10000000)) 10000000) fun y7 =>
some y7) (some false)) fun c4 =>
some c4
def zaC (k_0:Int):Option (Int) :=
cond ((k_0==1)) (some 1) (cond ((k_0==2)) (some 2) (cond ((k_0==3)) (some 4) (cond ((k_0==4)) (cond ((k_0==4)) (some 3) (some 0)) (cond ((k_0==5)) (cond ((k_0==5)) (some 3) (some 0)) (cond ((k_0==6)) (some 3) (some 0))))))
def zcH (p_0:Plan) (rail_1:Int):Option ((List Spot)) :=
Option.bind (idx p_0.2.1 rail_1) fun x1 =>
Option.bind (idx p_0.1 x1.1) fun x3 =>
Option.bind (zdJ 16 ([x3.1]) x1.2.2.1) fun x5 =>
Option.bind (idx p_0.1 x1.2.1) fun x7 =>
Option.bind (zdJ 16 x5 ([x7.1])) fun x8 =>
some x8
def zd8 (n_0:Int):Option (Int) :=
Option.bind (iter (σ:=(Int×Int)) (τ:=(Int)) (fun s4 =>
cond ((decide ((w64 (s4.2-s4.1))>1))) (Option.bind (zcV .i64 ((w64 (s4.1+s4.2))) 2) fun x7 =>
cond ((decide ((w64 (x7*x7))≤n_0))) (some (.inl ((x7,s4.2)))) (some (.inl ((s4.1,x7))))) (some (.inr s4.1))) big ((0,30000000))) fun t9 =>
some t9
def zcr (a_0:Spot) (b_1:Spot):Option (Int) :=
Option.bind (zd8 ((w64 ((w64 ((w64 (a_0.1-b_1.1))*(w64 (a_0.1-b_1.1))))+(w64 ((w64 (a_0.2.1-b_1.2.1))*(w64 (a_0.2.1-b_1.2.1)))))))) fun y1 =>
some y1
def zdY (p_0:Plan) (e_1:zq):Option (Int) :=
cond (e_1.2.1) (Option.bind (idx p_0.2.1 e_1.1) fun x2 =>
some x2.2.1) (Option.bind (idx p_0.2.1 e_1.1) fun x3 =>
some x3.1)
def zbW (p_0:Plan):Option (Bool) :=
Option.bind (Option.bind (zag ((zz p_0.1)) 1 300) fun y5 =>
cond ((!y5)) (some true) (Option.bind (zag ((zz p_0.2.1)) 1 400) fun y7 =>
some ((!y7)))) fun c4 =>
cond (c4) (some false) (Option.bind (iter (σ:=(Int)) (τ:=Unit⊕(Bool)) (fun s84 =>
cond ((decide (s84<(zz p_0.1)))) (Option.bind (idx p_0.1 s84) fun x87 =>
cond ((x87.2.1==5)) (Option.bind (zag x87.2.2.2.1 1 2) fun y92 =>
Option.bind (zba x87.1) fun y105 =>
cond ((!y105)) (some (.inr ((.inr false)))) (Option.bind (zaC x87.2.1) fun y108 =>
cond ((y108==0)) (some (.inr ((.inr false)))) (Option.bind (zaC x87.2.1) fun y111 =>
cond (((zz x87.2.2.1)!=y111)) (some (.inr ((.inr false)))) (cond ((!y92)) (some (.inr ((.inr false)))) (some (.inl ((w64 (s84+1))))))))) (cond ((x87.2.1==6)) (Option.bind (zag x87.2.2.2.1 1 2) fun y116 =>
Option.bind (zba x87.1) fun y129 =>
cond ((!y129)) (some (.inr ((.inr false)))) (Option.bind (zaC x87.2.1) fun y132 =>
cond ((y132==0)) (some (.inr ((.inr false)))) (Option.bind (zaC x87.2.1) fun y135 =>
cond (((zz x87.2.2.1)!=y135)) (some (.inr ((.inr false)))) (cond ((!y116)) (some (.inr ((.inr false)))) (some (.inl ((w64 (s84+1))))))))) (Option.bind (zba x87.1) fun y151 =>
cond ((!y151)) (some (.inr ((.inr false)))) (Option.bind (zaC x87.2.1) fun y154 =>
cond ((y154==0)) (some (.inr ((.inr false)))) (Option.bind (zaC x87.2.1) fun y157 =>
cond (((zz x87.2.2.1)!=y157)) (some (.inr ((.inr false)))) (cond ((!(x87.2.2.2.1==0))) (some (.inr ((.inr false)))) (some (.inl ((w64 (s84+1))))))))))) (some (.inr ((.inl (())))))) big 0) fun t161 =>
alt (fun b163=>Option.bind (iter (σ:=(Int)) (τ:=Unit⊕(Bool)) (fun s231 =>
cond ((decide (s231<(zz p_0.2.1)))) (Option.bind (idx p_0.2.1 s231) fun x234 =>
Option.bind (zag x234.1 0 ((w64 ((zz p_0.1)-1)))) fun y244 =>
cond ((!y244)) (some (.inr ((.inr false)))) (Option.bind (zag x234.2.1 0 ((w64 ((zz p_0.1)-1)))) fun y247 =>
cond ((!y247)) (some (.inr ((.inr false)))) (cond ((decide ((zz x234.2.2.1)>30))) (some (.inr ((.inr false)))) (Option.bind (zag x234.2.2.2.1 1 50000) fun y252 =>
cond ((!y252)) (some (.inr ((.inr false)))) (Option.bind (zag x234.2.2.2.2.1 ((-120)) 120) fun y255 =>
cond ((!y255)) (some (.inr ((.inr false)))) (Option.bind (iter (σ:=(Int)) (τ:=Unit⊕(Bool)) (fun s261 =>
cond ((decide (s261<(zz x234.2.2.1)))) (Option.bind (idx x234.2.2.1 s261) fun x264 =>
Option.bind (zba x264) fun y265 =>
cond ((!y265)) (some (.inr ((.inr false)))) (some (.inl ((w64 (s261+1)))))) (some (.inr ((.inl (())))))) big 0) fun t267 =>
alt (fun b269=>Option.bind (zcH p_0 s231) fun y271 =>
Option.bind (iter (σ:=(Int)) (τ:=Unit⊕(Bool)) (fun s283 =>
cond ((decide (s283<(zz y271)))) (Option.bind (idx y271 ((w64 (s283-1)))) fun x290 =>
Option.bind (idx y271 s283) fun x291 =>
Option.bind (zcr x290 x291) fun y292 =>
Option.bind (zag y292 1 1000000) fun y293 =>
cond ((!y293)) (some (.inr ((.inr false)))) (some (.inl ((w64 (s283+1)))))) (some (.inr ((.inl (())))))) big 1) fun t295 =>
alt (fun b297=>some (.inl ((w64 (s231+1))))) (fun b298=>some (.inr ((.inr b298)))) t295) (fun b270=>some (.inr ((.inr b270)))) t267)))))) (some (.inr ((.inl (())))))) big 0) fun t299 =>
alt (fun b301=>Option.bind (iter (σ:=((List zq)×Int)) (τ:=((List zq))⊕(Bool)) (fun s368 =>
cond ((decide (s368.2<(zz p_0.1)))) (Option.bind (iter (σ:=((List zq)×Int)) (τ:=((List zq))⊕(Bool)) (fun s400 =>
Option.bind (idx p_0.1 s368.2) fun x402 =>
cond ((decide (s400.2<(zz x402.2.2.1)))) (Option.bind (idx p_0.1 s368.2) fun x404 =>
Option.bind (idx x404.2.2.1 s400.2) fun x405 =>
Option.bind (zag x405.1 0 ((w64 ((zz p_0.2.1)-1)))) fun y410 =>
cond ((!y410)) (some (.inr ((.inr false)))) (Option.bind (zdY p_0 x405) fun y413 =>
cond ((y413 !=s368.2)) (some (.inr ((.inr false)))) (Option.bind (iter (σ:=(Int)) (τ:=Unit⊕(Bool)) (fun s419 =>
cond ((decide (s419<(zz s400.1)))) (Option.bind (idx s400.1 s419) fun x423 =>
cond ((x423==x405)) (some (.inr ((.inr false)))) (some (.inl ((w64 (s419+1)))))) (some (.inr ((.inl (())))))) big 0) fun t425 =>
alt (fun b427=>Option.bind (zdJ 16 s400.1 ([x405])) fun x429 =>
some (.inl ((x429,(w64 (s400.2+1)))))) (fun b428=>some (.inr ((.inr b428)))) t425))) (some (.inr ((.inl s400.1))))) big ((s368.1,0))) fun t431 =>
alt (fun b433=>some (.inl ((b433,(w64 (s368.2+1)))))) (fun b434=>some (.inr ((.inr b434)))) t431) (some (.inr ((.inl s368.1))))) big (([],0))) fun t435 =>
alt (fun b437=>some (((zz b437)==(w64 (2*(zz p_0.2.1)))))) (fun b438=>some b438) t435) (fun b302=>some b302) t299) (fun b164=>some b164) t161)
def zaz (p_0:Plan) (rail_1:Int):Option (Int) :=
Option.bind (zcH p_0 rail_1) fun y1 =>
Option.bind (iter (σ:=(Int×Int)) (τ:=(Int)) (fun s10 =>
cond ((decide (s10.2<(zz y1)))) (Option.bind (idx y1 ((w64 (s10.2-1)))) fun x16 =>
Option.bind (idx y1 s10.2) fun x17 =>
Option.bind (zcr x16 x17) fun y18 =>
some (.inl (((w64 (s10.1+y18)),(w64 (s10.2+1)))))) (some (.inr s10.1))) big ((0,1))) fun t19 =>
some t19
def zcW (p_0:Plan):Option (Bool) :=
Option.bind (cond ((decide ((zz p_0.1)>12))) (some true) (some ((decide ((zz p_0.2.1)>12))))) fun c2 =>
cond (c2) (some false) (Option.bind (iter (σ:=(Int)) (τ:=Unit⊕(Bool)) (fun s8 =>
cond ((decide (s8<(zz p_0.1)))) (Option.bind (idx p_0.1 s8) fun x11 =>
cond ((decide ((zz x11.2.2.1)>6))) (some (.inr ((.inr false)))) (some (.inl ((w64 (s8+1)))))) (some (.inr ((.inl (())))))) big 0) fun t13 =>
alt (fun b15=>Option.bind (iter (σ:=(Int)) (τ:=Unit⊕(Bool)) (fun s20 =>
cond ((decide (s20<(zz p_0.2.1)))) (Option.bind (idx p_0.2.1 s20) fun x23 =>
cond ((decide ((zz x23.2.2.1)>10))) (some (.inr ((.inr false)))) (some (.inl ((w64 (s20+1)))))) (some (.inr ((.inl (())))))) big 0) fun t25 =>
alt (fun b27=>Option.bind (zbW p_0) fun y29 =>
cond (y29) (Option.bind (iter (σ:=(Int×Int)) (τ:=(Int)) (fun s33 =>
cond ((decide (s33.2<(zz p_0.2.1)))) (Option.bind (zaz p_0 s33.2) fun y36 =>
some (.inl (((w64 (s33.1+y36)),(w64 (s33.2+1)))))) (some (.inr s33.1))) big ((0,0))) fun t37 =>
some ((decide (t37≤200000)))) (some ((decide (0≤200000))))) (fun b28=>some b28) t25) (fun b16=>some b16) t13)
def zbX (l_0:Line):Option (Bool) :=
Option.bind (cond ((decide ((zz l_0.1.1)≤12))) (cond ((decide ((zz l_0.2.1.1)≤12))) (cond ((decide ((zz l_0.1.2.1)≤6))) (cond ((decide ((zz l_0.2.1.2.1)≤6))) (cond ((decide ((zz l_0.1.2.2.1)≤8))) (cond ((decide ((zz l_0.2.1.2.2.1)≤8))) (cond ((decide ((zz l_0.2.2.1.2.2.2.2.2.2.2.2.2.1)≤10))) (cond ((decide (l_0.2.2.1.2.2.2.2.1≥200))) (cond ((decide (l_0.2.2.1.2.2.2.1≥200))) (some ((decide (l_0.2.2.1.1≤4000)))) (some false)) (some false)) (some false)) (some false)) (some false)) (some false)) (some false)) (some false)) (some false)) fun c10 =>
some c10
def zae (x_0:Int) (low_1:Int) (high_2:Int):Option (Bool) :=
Option.bind (cond ((decide (x_0≥low_1))) (some ((decide (x_0≤high_2)))) (some false)) fun c2 =>
some c2
def zU (x_0:Int) (low_1:Int) (high_2:Int):Option (Bool) :=
Option.bind (cond ((decide (x_0≥low_1))) (some ((decide (x_0≤high_2)))) (some false)) fun c2 =>
some c2
def zat (s_0:(List zbT)) (f_1:((zbT)->Option (Bool))):Option (Int) :=
Option.bind (iter (σ:=(Int)) (τ:=Unit⊕(Int)) (fun s5 =>
cond ((decide (s5<(zz s_0)))) (Option.bind (idx s_0 s5) fun x8 =>
Option.bind (f_1 x8) fun y9 =>
cond (y9) (some (.inr ((.inr s5)))) (some (.inl ((w64 (s5+1)))))) (some (.inr ((.inl (())))))) big 0) fun t11 =>
alt (fun b13=>some ((-1))) (fun b14=>some b14) t11
def zZ (s_0:(List zbT)) (f_1:((zbT)->Option (Bool))):Option (Bool) :=
Option.bind (zat s_0 f_1) fun y1 =>
some ((decide (y1≥0)))
def zcn (s_0:Spot):Option (Bool) :=
Option.bind (Option.bind (zU s_0.1 ((-10000000)) 10000000) fun y5 =>
cond (y5) (Option.bind (zU s_0.2.1 ((-10000000)) 10000000) fun y7 =>
some y7) (some false)) fun c4 =>
some c4
def zen :Option ((List Int)) :=
some ((List.replicate 1 0++([1,2,4,3,3,3]:(List Int))))
def zd9 (n_0:zbT):Option (Bool) :=
Option.bind (cond ((decide (n_0.2.1<1))) (some true) (cond ((decide (n_0.2.1>6))) (some true) (Option.bind (zcn n_0.1) fun y16 =>
cond ((!y16)) (some true) (Option.bind (zen) fun y18 =>
Option.bind (idx y18 n_0.2.1) fun x19 =>
some (((zz n_0.2.2.1)!=x19)))))) fun c13 =>
cond (c13) (some false) (Option.bind (cond ((n_0.2.1==5)) (some true) (some ((n_0.2.1==6)))) fun c22 =>
cond (c22) (Option.bind (zU n_0.2.2.2.1 1 2) fun y25 =>
some y25) (some ((n_0.2.2.2.1==0))))
def zdz (n_0:zbT):Option (Bool) :=
Option.bind (zd9 n_0) fun y1 =>
some ((!y1))
def zau (s_0:(List Rail)) (f_1:((Rail)->Option (Bool))):Option (Int) :=
Option.bind (iter (σ:=(Int)) (τ:=Unit⊕(Int)) (fun s5 =>
cond ((decide (s5<(zz s_0)))) (Option.bind (idx s_0 s5) fun x8 =>
Option.bind (f_1 x8) fun y9 =>
cond (y9) (some (.inr ((.inr s5)))) (some (.inl ((w64 (s5+1)))))) (some (.inr ((.inl (())))))) big 0) fun t11 =>
alt (fun b13=>some ((-1))) (fun b14=>some b14) t11
def z4 (s_0:(List Rail)) (f_1:((Rail)->Option (Bool))):Option (Bool) :=
Option.bind (zau s_0 f_1) fun y1 =>
some ((decide (y1≥0)))
def zar (n_1:Int):Option ((List Spot)) :=
cond ((decide (n_1<0))) (none) (cond ((decide ((w64 (n_1-(w64 (0-0))))>0))) (Option.bind (zqZ 16 ((w64 (n_1-(w64 (0-0))))) ((0,0,()):Spot)) fun x3 =>
Option.bind (slz x3) fun x5 =>
some (([]:List Spot))) (some ([])))
def zan (slices_0:(List (List Spot))):Option ((List Spot)) :=
Option.bind (iter (σ:=(Int×Int)) (τ:=(Int)) (fun s4 =>
cond ((decide (s4.2<(zz slices_0)))) (Option.bind (idx slices_0 s4.2) fun x7 =>
cond ((decide ((w64 (s4.1+(zz x7)))<0))) (none) (some (.inl (((w64 (s4.1+(zz x7))),(w64 (s4.2+1))))))) (some (.inr s4.1))) big ((0,0))) fun t9 =>
Option.bind (zar t9) fun y11 =>
Option.bind (iter (σ:=((List Spot)×Int)) (τ:=((List Spot))) (fun s17 =>
cond ((decide (s17.2<(zz slices_0)))) (Option.bind (idx slices_0 s17.2) fun x20 =>
Option.bind (zdJ 16 s17.1 x20) fun x21 =>
some (.inl ((x21,(w64 (s17.2+1)))))) (some (.inr s17.1))) big ((y11,0))) fun t23 =>
some t23
def zdp (p_0:Plan) (r_1:Rail):Option ((List Spot)) :=
Option.bind (idx p_0.1 r_1.1) fun x5 =>
Option.bind (idx p_0.1 r_1.2.1) fun x6 =>
Option.bind (zan ([[x5.1],r_1.2.2.1,[x6.1]])) fun y7 =>
some y7
def zea (n_0:Int):Option (Int) :=
Option.bind (FloatKind.f64.format.sqrt ((FloatKind.f64.nearest n_0))) fun x1 =>
Option.bind (f2i x1) fun x2 =>
Option.bind (iter (σ:=(Int)) (τ:=(Int)) (fun s4 =>
cond ((decide ((w64 (s4*s4))>n_0))) (some (.inl ((w64 (s4-1))))) (some (.inr s4))) big x2) fun t7 =>
Option.bind (iter (σ:=(Int)) (τ:=(Int)) (fun s10 =>
cond ((decide ((w64 ((w64 (s10+1))*(w64 (s10+1))))≤n_0))) (some (.inl ((w64 (s10+1))))) (some (.inr s10))) big t7) fun t13 =>
some t13
def zbY (a_0:Spot) (b_1:Spot):Option (Int) :=
Option.bind (zea ((w64 ((w64 ((w64 (a_0.1-b_1.1))*(w64 (a_0.1-b_1.1))))+(w64 ((w64 (a_0.2.1-b_1.2.1))*(w64 (a_0.2.1-b_1.2.1)))))))) fun y1 =>
some y1
def zeb (p_0:Plan) (r_1:Rail):Option (Bool) :=
Option.bind (Option.bind (zU r_1.1 0 ((w64 ((zz p_0.1)-1)))) fun y10 =>
cond ((!y10)) (some true) (Option.bind (zU r_1.2.1 0 ((w64 ((zz p_0.1)-1)))) fun y12 =>
cond ((!y12)) (some true) (cond ((decide ((zz r_1.2.2.1)>30))) (some true) (Option.bind (zU r_1.2.2.2.1 1 50000) fun y15 =>
cond ((!y15)) (some true) (Option.bind (zU r_1.2.2.2.2.1 ((-120)) 120) fun y17 =>
some ((!y17))))))) fun c9 =>
cond (c9) (some false) (Option.bind (zdp p_0 r_1) fun y19 =>
Option.bind (iter (σ:=(Int)) (τ:=Unit⊕(Bool)) (fun s45 =>
cond ((decide (s45<(zz y19)))) (Option.bind (idx y19 s45) fun x48 =>
Option.bind (zcn x48) fun y62 =>
cond ((!y62)) (some (.inr ((.inr false)))) (cond ((decide (s45>0))) (Option.bind (idx y19 ((w64 (s45-1)))) fun x66 =>
Option.bind (zbY x66 x48) fun y67 =>
Option.bind (zU y67 1 1000000) fun y68 =>
cond ((!y68)) (some (.inr ((.inr false)))) (some (.inl ((w64 (s45+1)))))) (some (.inl ((w64 (s45+1))))))) (some (.inr ((.inl (())))))) big 0) fun t71 =>
alt (fun b73=>some true) (fun b74=>some b74) t71)
def zcI (r_0:Rail) (p_1:Plan):Option (Bool) :=
Option.bind (zeb p_1 r_0) fun y1 =>
some ((!y1))
def zbG (p_0:Plan) (e_1:zq):Option (Int) :=
cond (e_1.2.1) (Option.bind (idx p_0.2.1 e_1.1) fun x2 =>
some x2.2.1) (Option.bind (idx p_0.2.1 e_1.1) fun x3 =>
some x3.1)
def zcX (p_0:Plan):Option (Int) :=
Option.bind (Option.bind (zU ((zz p_0.1)) 1 300) fun y5 =>
cond ((!y5)) (some true) (Option.bind (zU ((zz p_0.2.1)) 1 400) fun y7 =>
some ((!y7)))) fun c4 =>
cond (c4) (some 2) (Option.bind (Option.bind (zZ p_0.1 ((fun x=>zdz x))) fun y13 =>
cond (y13) (some true) (Option.bind (z4 p_0.2.1 ((fun x=>zcI x p_0))) fun y15 =>
some y15)) fun c12 =>
cond (c12) (some 2) (Option.bind (iter (σ:=(Int×(List (zq×Bool)))) (τ:=((List (zq×Bool)))⊕(Int)) (fun s120 =>
cond ((decide (s120.1<(zz p_0.1)))) (Option.bind (idx p_0.1 s120.1) fun x123 =>
Option.bind (iter (σ:=(Int×(List (zq×Bool)))) (τ:=((List (zq×Bool)))⊕(Int×(List (zq×Bool)))) (fun s153 =>
cond ((decide (s153.1<(zz x123.2.2.1)))) (Option.bind (idx x123.2.2.1 s153.1) fun x156 =>
Option.bind (zU x156.1 0 ((w64 ((zz p_0.2.1)-1)))) fun y162 =>
cond ((!y162)) (some (.inr ((.inr ((2,s153.2)))))) (cond (((mget s153.2 x156).getD false)) (some (.inr ((.inr ((2,s153.2)))))) (Option.bind (zbG p_0 x156) fun y167 =>
cond ((y167 !=s120.1)) (some (.inr ((.inr ((2,s153.2)))))) (some (.inl (((w64 (s153.1+1)),(mset s153.2 x156 true)))))))) (some (.inr ((.inl s153.2))))) big ((0,s120.2))) fun t169 =>
alt (fun b171=>some (.inl (((w64 (s120.1+1)),b171)))) (fun b172=>some (.inr ((.inr b172.1)))) t169) (some (.inr ((.inl s120.2))))) big ((0,([]:(List (zq×Bool)))))) fun t173 =>
alt (fun b175=>Option.bind (ztr b175) fun x177 =>
cond ((x177 !=(w64 (2*(zz p_0.2.1))))) (some 2) (some 0)) (fun b176=>some b176) t173))
def zcY (l_0:Line):Option ((List Course)) :=
some (([l_0.1,l_0.2.1]:(List Course)))
def zdq (p_0:Plan):Option ((Option zaO)×Bool) :=
Option.bind (zcX p_0) fun y1 =>
cond ((y1 !=0)) (some (((none:Option zaO),false))) (Option.bind (iter (σ:=(Int×(List Int))) (τ:=((List Int))) (fun s55 =>
cond ((decide (s55.1<(zz p_0.2.1)))) (Option.bind (idx p_0.2.1 s55.1) fun x58 =>
Option.bind (zdp p_0 x58) fun y60 =>
Option.bind (iter (σ:=(Int×Int)) (τ:=(Int)) (fun s69 =>
cond ((decide (s69.2<(zz y60)))) (Option.bind (idx y60 ((w64 (s69.2-1)))) fun x75 =>
Option.bind (idx y60 s69.2) fun x76 =>
Option.bind (zbY x75 x76) fun y77 =>
some (.inl (((w64 (s69.1+y77)),(w64 (s69.2+1)))))) (some (.inr s69.1))) big ((0,1))) fun t78 =>
Option.bind (zdJ 8 s55.2 ([t78])) fun x80 =>
some (.inl (((w64 (s55.1+1)),x80)))) (some (.inr s55.2))) big ((0,[]))) fun t82 =>
Option.bind (iter (σ:=(Int×(List (zq×Int)))) (τ:=((List (zq×Int)))) (fun s116 =>
cond ((decide (s116.1<(zz p_0.1)))) (Option.bind (idx p_0.1 s116.1) fun x119 =>
Option.bind (iter (σ:=(Int×(List (zq×Int)))) (τ:=((List (zq×Int)))) (fun s127 =>
cond ((decide (s127.1<(zz x119.2.2.1)))) (Option.bind (idx x119.2.2.1 s127.1) fun x130 =>
some (.inl (((w64 (s127.1+1)),(mset s127.2 x130 s127.1))))) (some (.inr s127.2))) big ((0,s116.2))) fun t132 =>
some (.inl (((w64 (s116.1+1)),t132)))) (some (.inr s116.2))) big ((0,([]:(List (zq×Int)))))) fun t134 =>
some (((some (((p_0.1,p_0.2.1,()),t82,t134,()))),true)))
def zaZ (n_0:zaO) (m_1:zR):Option (Bool) :=
Option.bind (zU m_1.1 0 ((w64 ((zz n_0.1.2.1)-1)))) fun y2 =>
some y2
def zcJ (m_0:zR):Option (zq) :=
some (((m_0.1,(!m_0.2.1),()):zq))
def zdj (p_0:zaf) (from_1:Int) (to_2:Int):Option (Bool) :=
some false
def zcK (p_0:zaf) (from_1:Int) (to_2:Int):Option (Bool) :=
some ((from_1 !=to_2))
def zbt (p_0:zaf) (from_1:Int) (to_2:Int):Option (Bool) :=
Option.bind (cond ((from_1 !=to_2)) (Option.bind (zuC ((w64 (from_1+to_2))) 2) fun x5 =>
some ((x5==0))) (some false)) fun c3 =>
some c3
def zbP (p_0:zaf) (from_1:Int) (to_2:Int):Option (Bool) :=
Option.bind (cond ((from_1 !=to_2)) (cond ((from_1==0)) (some true) (some ((to_2==0)))) (some false)) fun c3 =>
some c3
def zbg (x_0:zaf) (from_1:Int) (to_2:Int):Option (Bool) :=
Option.bind (cond ((from_1 !=0)) (cond ((to_2==0)) (some true) (cond ((from_1==0)) (some ((to_2==x_0.1.2.2.2.1))) (some false))) (cond ((from_1==0)) (some ((to_2==x_0.1.2.2.2.1))) (some false))) fun c5 =>
some c5
def zbh (x_0:zaf) (from_1:Int) (to_2:Int):Option (Bool) :=
Option.bind (cond ((from_1==0)) (cond ((to_2==x_0.1.2.2.2.1)) (some true) (cond ((from_1==x_0.1.2.2.2.1)) (some ((to_2==0))) (some false))) (cond ((from_1==x_0.1.2.2.2.1)) (some ((to_2==0))) (some false))) fun c5 =>
some c5
def za6 (x_0:zaf) (from_1:Int) (to_2:Int):Option (Bool) :=
Option.bind (idx ((List.replicate 1 (fun _=>none)++([(fun x=>zdj x.1 x.2.1 x.2.2),(fun x=>zcK x.1 x.2.1 x.2.2),(fun x=>zbt x.1 x.2.1 x.2.2),(fun x=>zbP x.1 x.2.1 x.2.2),(fun x=>zbg x.1 x.2.1 x.2.2),(fun x=>zbh x.1 x.2.1 x.2.2)]:(List ((zaf×Int×Int)->Option (Bool)))))) x_0.1.2.1) fun x4 =>
Option.bind (x4 ((x_0,from_1,to_2))) fun y5 =>
some y5
def zcv (m_0:zR):Option (Int) :=
cond (m_0.2.1) (some ((w64 ((w64 (2*m_0.1))+1)))) (some ((w64 (2*m_0.1))))
def zce (x_0:Int):Option (Bool) :=
some ((x_0 !=x_0))
def zaU (x_0:Int) (y_1:Int):Option (Bool) :=
Option.bind (Option.bind (zce x_0) fun y6 =>
cond (y6) (Option.bind (zce y_1) fun y8 =>
cond ((!y8)) (some true) (some ((decide (x_0<y_1))))) (some ((decide (x_0<y_1))))) fun c5 =>
some c5
def z6   (data_0:(List Int)) (a_1:Int) (b_2:Int):Option ((List Int)) :=
Option.bind (iter (σ:=(Int×(List Int))) (τ:=((List Int))) (fun s143 =>
cond ((decide (s143.1<b_2))) (Option.bind (iter (σ:=(Int×(List Int))) (τ:=((List Int))) (fun s190 =>
cond ((decide (s190.1>a_1))) (Option.bind (idx s190.2 s190.1) fun x201 =>
Option.bind (idx s190.2 ((w64 (s190.1-1)))) fun x202 =>
Option.bind (zaU x201 x202) fun y203 =>
cond (y203) (Option.bind (idx s190.2 ((w64 (s190.1-1)))) fun x209 =>
Option.bind (idx s190.2 s190.1) fun x210 =>
Option.bind (idx s190.2 s190.1) fun x211 =>
Option.bind (idx ((s190.2).set (Int.toNat s190.1) x209) ((w64 (s190.1-1)))) fun x212 =>
some (.inl (((w64 (s190.1-1)),((s190.2).set (Int.toNat s190.1) x209).set (Int.toNat ((w64 (s190.1-1)))) x210)))) (some (.inr s190.2))) (some (.inr s190.2))) big ((s143.1,s143.2))) fun t214 =>
some (.inl (((w64 (s143.1+1)),t214)))) (some (.inr s143.2))) big (((w64 (a_1+1)),data_0))) fun t216 =>
some t216
def zfi (x_0:Int):Option (Int) :=
cond ((decide (x_0≥65536))) (Option.bind (zlI .u32 x_0 16) fun x2 =>
cond ((decide (x2≥256))) (Option.bind (zlI .u32 x2 8) fun x4 =>
Option.bind (idx zbC ((IntKind.u8.wrap x4))) fun x5 =>
some ((w64 ((w64 (16+8))+(w64 x5))))) (Option.bind (idx zbC ((IntKind.u8.wrap x2))) fun x6 =>
some ((w64 (16+(w64 x6)))))) (cond ((decide (x_0≥256))) (Option.bind (zlI .u32 x_0 8) fun x8 =>
Option.bind (idx zbC ((IntKind.u8.wrap x8))) fun x9 =>
some ((w64 ((w64 (0+8))+(w64 x9))))) (Option.bind (idx zbC ((IntKind.u8.wrap x_0))) fun x10 =>
some ((w64 (0+(w64 x10))))))
def zdZ (x_0:Int):Option (Int) :=
cond ((decide (x_0≥4294967296))) (Option.bind (zlI .u64 x_0 32) fun x2 =>
cond ((decide (x2≥65536))) (Option.bind (zlI .u64 x2 16) fun x4 =>
cond ((decide (x4≥256))) (Option.bind (zlI .u64 x4 8) fun x6 =>
Option.bind (idx zbC ((IntKind.u8.wrap x6))) fun x7 =>
some ((w64 ((w64 ((w64 (32+16))+8))+(w64 x7))))) (Option.bind (idx zbC ((IntKind.u8.wrap x4))) fun x8 =>
some ((w64 ((w64 (32+16))+(w64 x8)))))) (cond ((decide (x2≥256))) (Option.bind (zlI .u64 x2 8) fun x10 =>
Option.bind (idx zbC ((IntKind.u8.wrap x10))) fun x11 =>
some ((w64 ((w64 (32+8))+(w64 x11))))) (Option.bind (idx zbC ((IntKind.u8.wrap x2))) fun x12 =>
some ((w64 (32+(w64 x12))))))) (cond ((decide (x_0≥65536))) (Option.bind (zlI .u64 x_0 16) fun x14 =>
cond ((decide (x14≥256))) (Option.bind (zlI .u64 x14 8) fun x16 =>
Option.bind (idx zbC ((IntKind.u8.wrap x16))) fun x17 =>
some ((w64 ((w64 ((w64 (0+16))+8))+(w64 x17))))) (Option.bind (idx zbC ((IntKind.u8.wrap x14))) fun x18 =>
some ((w64 ((w64 (0+16))+(w64 x18)))))) (cond ((decide (x_0≥256))) (Option.bind (zlI .u64 x_0 8) fun x20 =>
Option.bind (idx zbC ((IntKind.u8.wrap x20))) fun x21 =>
some ((w64 ((w64 (0+8))+(w64 x21))))) (Option.bind (idx zbC ((IntKind.u8.wrap x_0))) fun x22 =>
some ((w64 (0+(w64 x22)))))))
def zcL (x_0:Int):Option (Int) :=
Option.bind (zdZ x_0) fun y2 =>
some y2
def zdA (length_0:Int):Option (Int) :=
Option.bind (zcL ((IntKind.u64.wrap length_0))) fun y1 =>
Option.bind (zx9 .u64 1 y1) fun x2 =>
some x2
def za4   (data_0:(List Int)) (a_1:Int) (b_2:Int) (limit_3:Int):Option ((List Int)) :=
Option.bind (iter (σ:=(Int×Int×Int×Bool×Bool×(List Int))) (τ:=((List Int))) (fun s11 =>
cond ((decide ((w64 (s11.2.1-s11.1))≤12))) (Option.bind (z6 s11.2.2.2.2.2 s11.1 s11.2.1) fun y14 =>
some (.inr y14)) (cond ((s11.2.2.1==0)) (none) (cond ((!s11.2.2.2.1)) (none) (none)))) big ((a_1,b_2,limit_3,true,true,data_0))) fun t18 =>
some t18
def zbu   (x_0:(List Int)):Option ((List Int)) :=
Option.bind (zcL ((IntKind.u64.wrap ((zz x_0))))) fun y1 =>
Option.bind (za4 x_0 0 ((zz x_0)) y1) fun y2 =>
some y2
def zdr (n_0:Int):Option (zR) :=
Option.bind (zcV .i64 n_0 2) fun x2 =>
Option.bind (zuC n_0 2) fun x3 =>
some (((x2,(x3==1),()):zR))
def zbi {σ τ:Type} (step:σ->(zR)->Option (σ⊕τ)) (s_:σ) (p_1:zaO) (p_2:zR):Option ((σ⊕τ)) :=
Option.bind (zcJ p_2) fun y5 =>
Option.bind (zbG p_1.1 y5) fun y6 =>
Option.bind (idx p_1.1.1 y6) fun x7 =>
Option.bind (iter (σ:=((List Int)×Int)) (τ:=((List Int))) (fun s20 =>
cond ((decide (s20.2<(zz x7.2.2.1)))) (Option.bind (idx x7.2.2.1 s20.2) fun x23 =>
Option.bind (zcJ p_2) fun y27 =>
Option.bind (za6 (((x7,()):zaf)) (((mget p_1.2.2.1 y27).getD 0)) s20.2) fun y28 =>
cond (y28) (Option.bind (zcv (((x23.1,x23.2.1,()):zR))) fun y30 =>
Option.bind (zdJ 8 s20.1 ([y30])) fun x31 =>
some (.inl ((x31,(w64 (s20.2+1)))))) (some (.inl ((s20.1,(w64 (s20.2+1))))))) (some (.inr s20.1))) big (([],0))) fun t33 =>
Option.bind (zbu t33) fun y35 =>
Option.bind (iter (σ:=(Int×(σ⊕τ))) (τ:=((σ⊕τ))⊕(((σ⊕τ)))) (fun s50 =>
cond ((decide (s50.1<(zz y35)))) (Option.bind (idx y35 s50.1) fun x53 =>
Option.bind (zdr x53) fun y54 =>
Option.bind (goL s50.2) fun s55 =>
Option.bind (step s55 y54) fun y56 =>
cond ((!(y56).isLeft)) (some (.inr ((.inr y56)))) (some (.inl (((w64 (s50.1+1)),y56))))) (some (.inr ((.inl s50.2))))) big ((0,(.inl s_)))) fun t59 =>
alt (fun b61=>some b61) (fun b62=>some b62) t59
def zcc (n_0:zaO) (m_1:zR):Option ((zaO×zR)) :=
some ((n_0,m_1))
def zaP (n_0:zaO) (m_1:zR) (k_2:zR):Option (Bool) :=
Option.bind (zcc n_0 m_1) fun y2 =>
Option.bind (zbi (σ:=(Bool)) (τ:=(Bool)) (fun s8 x3 =>
cond ((x3==k_2)) (some (.inr true)) (some (.inl s8))) false y2.1 y2.2) fun t12 =>
alt (fun b14=>some false) (fun b15=>some b15) t12
def zbQ (n_0:zaO) (l_1:(List zR)):Option (Bool) :=
Option.bind (iter (σ:=(Int)) (τ:=Unit⊕(Bool)) (fun s22 =>
cond ((decide (s22<(zz l_1)))) (Option.bind (idx l_1 s22) fun x25 =>
Option.bind (zaZ n_0 x25) fun y37 =>
cond ((!y37)) (some (.inr ((.inr false)))) (cond ((decide (s22>0))) (Option.bind (idx l_1 ((w64 (s22-1)))) fun x41 =>
Option.bind (zaP n_0 x41 x25) fun y42 =>
cond ((!y42)) (some (.inr ((.inr false)))) (some (.inl ((w64 (s22+1)))))) (some (.inl ((w64 (s22+1))))))) (some (.inr ((.inl (())))))) big 0) fun t45 =>
alt (fun b47=>Option.bind (zU ((zz l_1)) 1 2000) fun y49 =>
some y49) (fun b48=>some b48) t45
def zaV (n_0:zaO) (l_1:(List zR)):Option (Int) :=
Option.bind (iter (σ:=(Int×Int)) (τ:=(Int)) (fun s6 =>
cond ((decide (s6.2<(zz l_1)))) (Option.bind (idx l_1 s6.2) fun x9 =>
Option.bind (idx n_0.2.1 x9.1) fun x12 =>
some (.inl (((w64 (s6.1+x12)),(w64 (s6.2+1)))))) (some (.inr s6.1))) big ((0,0))) fun t13 =>
some t13
def zbK (p_0:Plan) (way_1:(List zR)):Option (Int×Int) :=
Option.bind (zdq p_0) fun y1 =>
Option.bind (cond ((!y1.2)) (some true) (Option.bind (y1.1) fun p7 =>
Option.bind (zbQ p7 way_1) fun y8 =>
some ((!y8)))) fun c5 =>
cond (c5) (some ((0,2))) (Option.bind (y1.1) fun p10 =>
Option.bind (zaV p10 way_1) fun y11 =>
some ((y11,0)))
def zW (n_0:Int) (low_1:Int) (high_2:Int):Option (Bool) :=
Option.bind (cond ((decide (n_0≥low_1))) (some ((decide (n_0≤high_2)))) (some false)) fun c2 =>
some c2
def zbe (s_0:(List Int)) (f_1:((Int)->Option (Bool))):Option (Int) :=
Option.bind (iter (σ:=(Int)) (τ:=Unit⊕(Int)) (fun s5 =>
cond ((decide (s5<(zz s_0)))) (Option.bind (idx s_0 s5) fun x8 =>
Option.bind (f_1 x8) fun y9 =>
cond (y9) (some (.inr ((.inr s5)))) (some (.inl ((w64 (s5+1)))))) (some (.inr ((.inl (())))))) big 0) fun t11 =>
alt (fun b13=>some ((-1))) (fun b14=>some b14) t11
def zay (s_0:(List Int)) (f_1:((Int)->Option (Bool))):Option (Bool) :=
Option.bind (zbe s_0 f_1) fun y1 =>
some ((decide (y1≥0)))
def zde (g_0:Int):Option (Bool) :=
Option.bind (zW g_0 1 1000) fun y1 =>
some ((!y1))
def zc6 (t_0:Train):Option (Int) :=
Option.bind (Option.bind (zW t_0.1 1000 80000) fun y19 =>
cond ((!y19)) (some true) (Option.bind (zW t_0.2.1 1 60000) fun y21 =>
cond ((!y21)) (some true) (Option.bind (zW t_0.2.2.1 1 25000) fun y23 =>
cond ((!y23)) (some true) (Option.bind (zW t_0.2.2.2.1 1 200000) fun y25 =>
cond ((!y25)) (some true) (Option.bind (zW t_0.2.2.2.2.1 1 200000) fun y27 =>
cond ((!y27)) (some true) (Option.bind (zW t_0.2.2.2.2.2.1 1 2000000) fun y29 =>
cond ((!y29)) (some true) (Option.bind (zW t_0.2.2.2.2.2.2.1 0 100000) fun y31 =>
cond ((!y31)) (some true) (Option.bind (zW t_0.2.2.2.2.2.2.2.1 0 10000) fun y33 =>
cond ((!y33)) (some true) (Option.bind (zW t_0.2.2.2.2.2.2.2.2.1 0 100) fun y35 =>
some ((!y35))))))))))) fun c18 =>
cond (c18) (some 2) (Option.bind (Option.bind (zW ((zz t_0.2.2.2.2.2.2.2.2.2.1)) 1 8) fun y41 =>
cond ((!y41)) (some true) (Option.bind (zay t_0.2.2.2.2.2.2.2.2.2.1 ((fun x=>zde x))) fun y43 =>
some y43)) fun c40 =>
cond (c40) (some 2) (some 0))
def zcM (t_0:Train) (state_1:Int):Option ((Option zab)×Bool) :=
Option.bind (Option.bind (zc6 t_0) fun y5 =>
cond ((y5 !=0)) (some true) (Option.bind (zW state_1 0 ((w64 ((zz t_0.2.2.2.2.2.2.2.2.2.1)-1)))) fun y7 =>
some ((!y7)))) fun c4 =>
cond (c4) (some (((none:Option zab),false))) (some (((some (((t_0,state_1,()):zab))),true)))
def zbH (p_0:Plan) (rail_1:Int):Option (Int×Int) :=
Option.bind (zdq p_0) fun y1 =>
Option.bind (cond ((!y1.2)) (some true) (Option.bind (y1.1) fun p7 =>
Option.bind (zaZ p7 (((rail_1,false,()):zR))) fun y8 =>
some ((!y8)))) fun c5 =>
cond (c5) (some ((0,2))) (Option.bind (y1.1) fun p10 =>
Option.bind (idx p10.2.1 rail_1) fun x11 =>
some ((x11,0)))
def zc7 (p_0:Plan) (way_1:(List zR)) (t_2:Train) (state_3:Int) (stops_4:(List Int)):Option ((Option zav)×Bool) :=
Option.bind (zcM t_2 state_3) fun y1 =>
Option.bind (zbK p_0 way_1) fun y2 =>
Option.bind (cond ((!y1.2)) (some true) (cond ((y2.2 !=0)) (some true) (Option.bind (zW ((zz stops_4)) 2 100) fun y20 =>
cond ((!y20)) (some true) (Option.bind (idx stops_4 0) fun x22 =>
cond ((decide (x22<t_2.2.1))) (some true) (Option.bind (idx stops_4 ((w64 ((zz stops_4)-1)))) fun x24 =>
some ((decide (x24>y2.1)))))))) fun c17 =>
cond (c17) (some (((none:Option zav),false))) (Option.bind (iter (σ:=(Int)) (τ:=Unit⊕((Option zav)×Bool)) (fun s32 =>
cond ((decide (s32<(zz stops_4)))) (Option.bind (idx stops_4 s32) fun x37 =>
Option.bind (idx stops_4 ((w64 (s32-1)))) fun x38 =>
cond ((decide (x37≤x38))) (some (.inr ((.inr (((none:Option zav),false)))))) (some (.inl ((w64 (s32+1)))))) (some (.inr ((.inl (())))))) big 1) fun t40 =>
alt (fun b42=>Option.bind (y1.1) fun p44 =>
Option.bind (iter (σ:=(Int×Int×(List Int)×(List Int)×(List Int))) (τ:=((List Int)×(List Int)×(List Int))⊕((Option zav)×Bool×(List Int)×(List Int)×(List Int))) (fun s110 =>
cond ((decide (s110.2.1<(zz way_1)))) (Option.bind (idx way_1 s110.2.1) fun x113 =>
Option.bind (zbH p_0 x113.1) fun y115 =>
cond ((y115.2 !=0)) (some (.inr ((.inr (((none:Option zav),false,s110.2.2.2.2,s110.2.2.2.1,s110.2.2.1)))))) (Option.bind (idx p_0.2.1 x113.1) fun x117 =>
cond (x113.2.1) (Option.bind (zdJ 8 s110.2.2.2.2 ([(w64 (s110.1+y115.1))])) fun x126 =>
Option.bind (zdJ 8 s110.2.2.2.1 ([x117.2.2.2.1])) fun x128 =>
Option.bind (zdJ 8 s110.2.2.1 ([(w64 (0-x117.2.2.2.2.1))])) fun x130 =>
some (.inl (((w64 (s110.1+y115.1)),(w64 (s110.2.1+1)),x130,x128,x126)))) (Option.bind (zdJ 8 s110.2.2.2.2 ([(w64 (s110.1+y115.1))])) fun x138 =>
Option.bind (zdJ 8 s110.2.2.2.1 ([x117.2.2.2.1])) fun x140 =>
Option.bind (zdJ 8 s110.2.2.1 ([x117.2.2.2.2.1])) fun x142 =>
some (.inl (((w64 (s110.1+y115.1)),(w64 (s110.2.1+1)),x142,x140,x138)))))) (some (.inr ((.inl ((s110.2.2.2.2,s110.2.2.2.1,s110.2.2.1))))))) big ((0,0,[],[],[]))) fun t144 =>
alt (fun b146=>some (((some ((p44,way_1,b146.1,b146.2.1,b146.2.2,stops_4,()))),true))) (fun b147=>some ((b147.1,b147.2.1))) t144) (fun b43=>some ((b43.1,b43.2))) t40)
def zS (m_0:zab) (x_1:zf):Option (Int) :=
Option.bind (zcV .i64 x_1.2.1 ((w64 (10*m_0.1.1)))) fun x2 =>
some x2
def zbZ (x_0:Int):Option (Bool) :=
some ((x_0 !=x_0))
def zM (x_0:(List Int)) (target_1:Int):Option (Int×Bool) :=
Option.bind (iter (σ:=(Int×Int)) (τ:=(Int)) (fun s6 =>
cond ((decide (s6.1<s6.2))) (Option.bind (zlI .u64 ((IntKind.u64.wrap ((w64 (s6.1+s6.2))))) 1) fun x9 =>
Option.bind (idx x_0 ((w64 x9))) fun x10 =>
Option.bind (zaU x10 target_1) fun y11 =>
cond (y11) (some (.inl (((w64 ((w64 x9)+1)),s6.2)))) (some (.inl ((s6.1,(w64 x9)))))) (some (.inr s6.1))) big ((0,(zz x_0)))) fun t13 =>
Option.bind (cond ((decide (t13<(zz x_0)))) (Option.bind (idx x_0 t13) fun x24 =>
cond ((x24==target_1)) (some ((t13,true))) (Option.bind (idx x_0 t13) fun x26 =>
Option.bind (zbZ x26) fun y27 =>
cond (y27) (Option.bind (zbZ target_1) fun y29 =>
some ((t13,y29))) (some ((t13,false))))) (some ((t13,false)))) fun c22 =>
some ((c22.1,c22.2))
def zX (r_0:zav) (x_1:zf):Option (Int) :=
Option.bind (zS r_0.1 x_1) fun y2 =>
Option.bind (zM r_0.2.2.1 ((w64 (y2+1)))) fun y3 =>
Option.bind (idx r_0.2.2.2.2.1 ((min y3.1 ((w64 ((zz r_0.2.2.2.2.1)-1)))))) fun x5 =>
some x5
def zaQ (m_0:zab):Option (Int) :=
Option.bind (idx m_0.1.2.2.2.2.2.2.2.2.2.1 m_0.2.1) fun x3 =>
Option.bind (zcV .i64 ((w64 ((w64 (x3*m_0.1.1))*981))) 100000) fun x4 =>
some x4
def zaK (m_0:zab) (v_1:Int) (demand_2:Int) (slope_3:Int):Option (Int) :=
cond ((decide (demand_2≤0))) (some 0) (Option.bind (zcV .i64 ((w64 (m_0.1.2.2.2.1*demand_2))) 4) fun x4 =>
Option.bind (zaQ m_0) fun y5 =>
cond ((decide (v_1>0))) (Option.bind (zcV .i64 ((w64 (1000*m_0.1.2.2.2.2.2.1))) v_1) fun x7 =>
some ((min ((min x4 y5)) x7))) (some ((min x4 y5))))
def zaD (m_0:zab) (v_1:Int) (demand_2:Int) (slope_3:Int):Option (Int) :=
cond ((decide (demand_2≥0))) (some 0) (Option.bind (zcV .i64 ((w64 (m_0.1.2.2.2.2.1*(w64 (0-demand_2))))) 4) fun x4 =>
Option.bind (zaQ m_0) fun y5 =>
some ((min x4 y5)))
def za0 (m_0:zab) (v_1:Int) (demand_2:Int) (slope_3:Int):Option (Int) :=
Option.bind (zcV .i64 ((w64 (m_0.1.2.2.2.2.2.2.2.1*v_1))) 1000) fun x2 =>
some ((w64 (m_0.1.2.2.2.2.2.2.1+x2)))
def za1 (m_0:zab) (v_1:Int) (demand_2:Int) (slope_3:Int):Option (Int) :=
Option.bind (zcV .i64 ((w64 ((w64 (m_0.1.1*slope_3))*981))) 100000) fun x1 =>
some x1
def zb0 (m_0:zab) (v_1:Int) (demand_2:Int) (slope_3:Int):Option ((List Int)) :=
Option.bind (iter (σ:=(Int×(List Int))) (τ:=((List Int))) (fun s11 =>
cond ((decide (s11.1<4))) (Option.bind (idx (([(fun x=>zaK m_0 x.1 x.2.1 x.2.2),(fun x=>zaD m_0 x.1 x.2.1 x.2.2),(fun x=>za0 m_0 x.1 x.2.1 x.2.2),(fun x=>za1 m_0 x.1 x.2.1 x.2.2)]:(List ((Int×Int×Int)->Option (Int))))) s11.1) fun x14 =>
Option.bind (x14 ((v_1,demand_2,slope_3))) fun y15 =>
Option.bind (idx s11.2 s11.1) fun x16 =>
some (.inl (((w64 (s11.1+1)),(s11.2).set (Int.toNat s11.1) y15)))) (some (.inr s11.2))) big ((0,(List.replicate 4 (0:Int))))) fun t17 =>
some t17
def zaT (m_0:zab) (x_1:zf):Option (Int) :=
Option.bind (zcV .i64 x_1.1 m_0.1.1) fun x2 =>
some x2
def zaw (m_0:zab) (x_1:zf) (demand_2:Int) (slope_3:Int):Option (zbF×Bool) :=
Option.bind (zaT m_0 x_1) fun y2 =>
Option.bind (zb0 m_0 y2 demand_2 slope_3) fun y3 =>
Option.bind (idx y3 0) fun x5 =>
Option.bind (idx y3 1) fun x6 =>
Option.bind (idx y3 2) fun x7 =>
Option.bind (idx y3 3) fun x8 =>
Option.bind (cond ((decide ((w64 (x_1.1+(w64 (100*(w64 ((w64 ((w64 (x5-x6))-x7))-x8))))))<0))) (some true) (cond ((x_1.1==0)) (some ((decide ((w64 ((w64 ((w64 (x5-x6))-x7))-x8))≤0)))) (some false))) fun c12 =>
cond (c12) (Option.bind (idx y3 0) fun x20 =>
Option.bind (idx y3 1) fun x21 =>
Option.bind (idx y3 2) fun x22 =>
Option.bind (idx y3 3) fun x23 =>
Option.bind (idx y3 0) fun x26 =>
Option.bind (zcV .i64 ((w64 ((w64 ((w64 (x26*0))+(w64 (1000*m_0.1.1))))-1))) ((w64 (1000*m_0.1.1)))) fun x27 =>
Option.bind (idx y3 1) fun x30 =>
Option.bind (zcV .i64 ((w64 ((w64 (x30*0))*m_0.1.2.2.2.2.2.2.2.2.1))) ((w64 (100000*m_0.1.1)))) fun x31 =>
some ((((0,(w64 (x_1.2.1+0)),()),((w64 ((w64 (200*x20))*0)),(w64 ((w64 (200*x21))*0)),(w64 ((w64 (200*x22))*0)),(w64 ((w64 (200*x23))*0)),0,(w64 (x_1.1*x_1.1)),()),x27,x31,()),(decide (0≤(w64 (25000*m_0.1.1))))))) (Option.bind (idx y3 0) fun x36 =>
Option.bind (idx y3 1) fun x37 =>
Option.bind (idx y3 2) fun x38 =>
Option.bind (idx y3 3) fun x39 =>
Option.bind (idx y3 0) fun x42 =>
Option.bind (zcV .i64 ((w64 ((w64 ((w64 (x42*(w64 (x_1.1+(w64 (100*(w64 ((w64 ((w64 (x5-x6))-x7))-x8))))))))+(w64 (1000*m_0.1.1))))-1))) ((w64 (1000*m_0.1.1)))) fun x43 =>
Option.bind (idx y3 1) fun x46 =>
Option.bind (zcV .i64 ((w64 ((w64 (x46*(w64 (x_1.1+(w64 (100*(w64 ((w64 ((w64 (x5-x6))-x7))-x8))))))))*m_0.1.2.2.2.2.2.2.2.2.1))) ((w64 (100000*m_0.1.1)))) fun x47 =>
some (((((w64 (x_1.1+(w64 (100*(w64 ((w64 ((w64 (x5-x6))-x7))-x8)))))),(w64 (x_1.2.1+(w64 (x_1.1+(w64 (100*(w64 ((w64 ((w64 (x5-x6))-x7))-x8)))))))),()),((w64 ((w64 (200*x36))*(w64 (x_1.1+(w64 (100*(w64 ((w64 ((w64 (x5-x6))-x7))-x8)))))))),(w64 ((w64 (200*x37))*(w64 (x_1.1+(w64 (100*(w64 ((w64 ((w64 (x5-x6))-x7))-x8)))))))),(w64 ((w64 (200*x38))*(w64 (x_1.1+(w64 (100*(w64 ((w64 ((w64 (x5-x6))-x7))-x8)))))))),(w64 ((w64 (200*x39))*(w64 (x_1.1+(w64 (100*(w64 ((w64 ((w64 (x5-x6))-x7))-x8)))))))),(w64 ((w64 (10000*(w64 ((w64 ((w64 (x5-x6))-x7))-x8))))*(w64 ((w64 ((w64 (x5-x6))-x7))-x8)))),0,()),x43,x47,()),(decide ((w64 (x_1.1+(w64 (100*(w64 ((w64 ((w64 (x5-x6))-x7))-x8))))))≤(w64 (25000*m_0.1.1)))))))
def zb1 (r_0:zav) (x_1:zf):Option (Int) :=
Option.bind (zS r_0.1 x_1) fun y2 =>
Option.bind (zM r_0.2.2.1 ((w64 ((w64 (y2-r_0.1.1.2.1))+1)))) fun y3 =>
Option.bind (iter (σ:=(Int×Int)) (τ:=(Int)) (fun s8 =>
cond ((decide (s8.2<(zz r_0.2.2.1)))) (Option.bind (idx r_0.2.2.2.1 s8.2) fun x11 =>
Option.bind (idx r_0.2.2.1 s8.2) fun x12 =>
cond ((decide (x12≥y2))) (some (.inr (((min s8.1 x11))))) (some (.inl (((min s8.1 x11),(w64 (s8.2+1))))))) (some (.inr s8.1))) big ((r_0.1.1.2.2.1,y3.1))) fun t14 =>
some t14
def zbp (r_0:zav) (x_1:zf) (stop_2:Int):Option (Bool) :=
Option.bind (Option.bind (zS r_0.1 x_1) fun y10 =>
cond ((decide (y10≤stop_2))) (Option.bind (zaT r_0.1 x_1) fun y12 =>
Option.bind (zb1 r_0 x_1) fun y13 =>
some ((decide (y12≤y13)))) (some false)) fun c9 =>
some c9
def zaW {σ τ:Type} (step:σ->(zf)->Option (σ⊕τ)) (s_:σ) (p_1:zf) (p_2:zab) (p_3:((zf)->Option (Int))):Option ((σ⊕τ)×zf) :=
Option.bind (iter (σ:=(Int×(σ⊕τ)×Int×Int)) (τ:=((σ⊕τ)×Int×Int)⊕(((σ⊕τ)×Int×Int))) (fun s26 =>
cond ((decide (s26.1<36000))) (cond ((s26.2.2.1==0)) (some (.inr ((.inr ((s26.2.1,s26.2.2.1,s26.2.2.2)))))) (Option.bind (p_3 ((s26.2.2.1,s26.2.2.2,()))) fun y33 =>
Option.bind (zaw p_2 ((s26.2.2.1,s26.2.2.2,())) ((-4)) y33) fun y34 =>
cond ((!y34.2)) (some (.inr ((.inr ((s26.2.1,s26.2.2.1,s26.2.2.2)))))) (Option.bind (goL s26.2.1) fun s37 =>
Option.bind (step s37 y34.1.1) fun y38 =>
cond ((!(y38).isLeft)) (some (.inr ((.inr ((y38,y34.1.1.1,y34.1.1.2.1)))))) (some (.inl (((w64 (s26.1+1)),y38,y34.1.1.1,y34.1.1.2.1))))))) (some (.inr ((.inl ((s26.2.1,s26.2.2.1,s26.2.2.2))))))) big ((0,(.inl s_),p_1.1,p_1.2.1))) fun t41 =>
alt (fun b43=>some ((b43.1,(b43.2.1,b43.2.2,())))) (fun b44=>some ((b44.1,(b44.2.1,b44.2.2,())))) t41
def zbD (m_0:zab) (x_1:zf) (slope_2:((zf)->Option (Int))):Option (zf×zab×((zf)->Option (Int))) :=
some ((x_1,m_0,slope_2))
def zbL (r_0:zav) (x_1:zf) (stop_2:Int):Option (Bool) :=
Option.bind (zbp r_0 x_1 stop_2) fun y2 =>
cond ((!y2)) (some false) (Option.bind (zbD r_0.1 x_1 ((fun x=>zX r_0 x))) fun y7 =>
Option.bind (zaW (σ:=(Int×Int)) (τ:=(Int×Int)) (fun s16 x9 =>
Option.bind (zbp r_0 x9 stop_2) fun y19 =>
cond ((!y19)) (some (.inr ((s16.1,s16.2)))) (some (.inl ((x9.1,x9.2.1))))) ((x_1.1,x_1.2.1)) y7.1 y7.2.1 y7.2.2) fun t21 =>
alt (fun b23=>some ((b23.1==0))) (fun b24=>some false) t21.1)
def zaL (r_0:zav) (x_1:zf) (stop_2:Int):Option (zbF×Bool) :=
Option.bind (zX r_0 x_1) fun y2 =>
Option.bind (iter (σ:=(Bool×Int×Int×Int×Int×Int×Int×Int×Int×Int×Int×Int)) (τ:=(Bool×Int×Int×Int×Int×Int×Int×Int×Int×Int×Int)) (fun s26 =>
cond ((decide (s26.2.1<9))) (Option.bind (zaw r_0.1 x_1 ((w64 (4-s26.2.1))) y2) fun y31 =>
cond (y31.2) (Option.bind (zbL r_0 y31.1.1 stop_2) fun y36 =>
cond (y36) (some (.inr (((true,y31.1.1.1,y31.1.1.2.1,y31.1.2.1.1,y31.1.2.1.2.1,y31.1.2.1.2.2.1,y31.1.2.1.2.2.2.1,y31.1.2.1.2.2.2.2.1,y31.1.2.1.2.2.2.2.2.1,y31.1.2.2.1,y31.1.2.2.2.1))))) (some (.inl ((s26.1,(w64 (s26.2.1+1)),s26.2.2.1,s26.2.2.2.1,s26.2.2.2.2.1,s26.2.2.2.2.2.1,s26.2.2.2.2.2.2.1,s26.2.2.2.2.2.2.2.1,s26.2.2.2.2.2.2.2.2.1,s26.2.2.2.2.2.2.2.2.2.1,s26.2.2.2.2.2.2.2.2.2.2.1,s26.2.2.2.2.2.2.2.2.2.2.2))))) (some (.inl ((s26.1,(w64 (s26.2.1+1)),s26.2.2.1,s26.2.2.2.1,s26.2.2.2.2.1,s26.2.2.2.2.2.1,s26.2.2.2.2.2.2.1,s26.2.2.2.2.2.2.2.1,s26.2.2.2.2.2.2.2.2.1,s26.2.2.2.2.2.2.2.2.2.1,s26.2.2.2.2.2.2.2.2.2.2.1,s26.2.2.2.2.2.2.2.2.2.2.2))))) (some (.inr (((s26.1,s26.2.2.1,s26.2.2.2.1,s26.2.2.2.2.1,s26.2.2.2.2.2.1,s26.2.2.2.2.2.2.1,s26.2.2.2.2.2.2.2.1,s26.2.2.2.2.2.2.2.2.1,s26.2.2.2.2.2.2.2.2.2.1,s26.2.2.2.2.2.2.2.2.2.2.1,s26.2.2.2.2.2.2.2.2.2.2.2)))))) big ((false,0,0,0,0,0,0,0,0,0,0,0))) fun t39 =>
some ((((t39.2.1,t39.2.2.1,()),(t39.2.2.2.1,t39.2.2.2.2.1,t39.2.2.2.2.2.1,t39.2.2.2.2.2.2.1,t39.2.2.2.2.2.2.2.1,t39.2.2.2.2.2.2.2.2.1,()),t39.2.2.2.2.2.2.2.2.2.1,t39.2.2.2.2.2.2.2.2.2.2,()),t39.1))
def zco (l_0:(List zam)):Option (zam) :=
Option.bind (iter (σ:=(Int×Int×Int×Int×Int×Int×Int)) (τ:=(Int×Int×Int×Int×Int×Int)) (fun s9 =>
cond ((decide (s9.1<(zz l_0)))) (Option.bind (idx l_0 s9.1) fun x12 =>
some (.inl (((w64 (s9.1+1)),(w64 (s9.2.1+x12.1)),(w64 (s9.2.2.1+x12.2.1)),(w64 (s9.2.2.2.1+x12.2.2.1)),(w64 (s9.2.2.2.2.1+x12.2.2.2.1)),(w64 (s9.2.2.2.2.2.1+x12.2.2.2.2.1)),(w64 (s9.2.2.2.2.2.2+x12.2.2.2.2.2.1)))))) (some (.inr (((s9.2.1,s9.2.2.1,s9.2.2.2.1,s9.2.2.2.2.1,s9.2.2.2.2.2.1,s9.2.2.2.2.2.2)))))) big ((0,0,0,0,0,0,0))) fun t14 =>
some ((t14.1,t14.2.1,t14.2.2.1,t14.2.2.2.1,t14.2.2.2.2.1,t14.2.2.2.2.2,()))
def zbb (r_0:zav) (x_1:zf) (stop_2:Int):Option (Leg×zf×Bool) :=
Option.bind (iter (σ:=(Int×Int×Int×Int×Int×Int×Int×Int×Int×Int×Int×Int×Int×Int×Int×Int×Int×Int×Int×Int×Int×Int×Int×Int×Int)) (τ:=(Bool×Int×Int×Int×Int×Int×Int×Int×Int×Int×Int×Int×Int×Int×Int×Int×Int×Int×Int×Int×Int×Int×Int×Int×Int)) (fun s77 =>
Option.bind (zS r_0.1 ((s77.2.2.2.2.2.2.2.2.2.2.2.2.2.2.1,s77.2.2.2.2.2.2.2.2.2.2.2.2.2.2.2.1,()))) fun y80 =>
cond ((s77.2.2.2.2.2.2.2.2.2.2.2.2.2.2.1==0)) (Option.bind (zW ((w64 (stop_2-y80))) 0 1000) fun y84 =>
cond (y84) (some (.inr (((true,y80,s77.2.2.2.2.2.2.2.2.2.2.2.2.2.2.1,s77.2.2.2.2.2.2.2.2.2.2.2.2.2.2.2.1,s77.2.1,y80,s77.2.2.2.1,s77.2.2.2.2.1,s77.2.2.2.2.2.1,s77.2.2.2.2.2.2.1,s77.2.2.2.2.2.2.2.1,s77.2.2.2.2.2.2.2.2.1,s77.2.2.2.2.2.2.2.2.2.1,s77.2.2.2.2.2.2.2.2.2.2.1,s77.2.1,s77.2.2.2.1,s77.2.2.2.2.1,s77.2.2.2.2.2.1,s77.2.2.2.2.2.2.1,s77.2.2.2.2.2.2.2.1,s77.2.2.2.2.2.2.2.2.1,s77.2.2.2.2.2.2.2.2.2.1,s77.2.2.2.2.2.2.2.2.2.2.1,s77.2.2.2.2.2.2.2.2.2.2.2.2.2.2.1,s77.2.2.2.2.2.2.2.2.2.2.2.2.2.2.2.1))))) (cond ((s77.1==36000)) (some (.inr (((false,s77.2.2.1,s77.2.2.2.2.2.2.2.2.2.2.2.2.2.2.1,s77.2.2.2.2.2.2.2.2.2.2.2.2.2.2.2.1,s77.2.1,s77.2.2.1,s77.2.2.2.1,s77.2.2.2.2.1,s77.2.2.2.2.2.1,s77.2.2.2.2.2.2.1,s77.2.2.2.2.2.2.2.1,s77.2.2.2.2.2.2.2.2.1,s77.2.2.2.2.2.2.2.2.2.1,s77.2.2.2.2.2.2.2.2.2.2.1,s77.2.1,s77.2.2.2.1,s77.2.2.2.2.1,s77.2.2.2.2.2.1,s77.2.2.2.2.2.2.1,s77.2.2.2.2.2.2.2.1,s77.2.2.2.2.2.2.2.2.1,s77.2.2.2.2.2.2.2.2.2.1,s77.2.2.2.2.2.2.2.2.2.2.1,s77.2.2.2.2.2.2.2.2.2.2.2.2.2.2.1,s77.2.2.2.2.2.2.2.2.2.2.2.2.2.2.2.1))))) (Option.bind (zaL r_0 ((s77.2.2.2.2.2.2.2.2.2.2.2.2.2.2.1,s77.2.2.2.2.2.2.2.2.2.2.2.2.2.2.2.1,())) stop_2) fun y87 =>
cond ((!y87.2)) (some (.inr (((false,s77.2.2.1,s77.2.2.2.2.2.2.2.2.2.2.2.2.2.2.1,s77.2.2.2.2.2.2.2.2.2.2.2.2.2.2.2.1,s77.2.1,s77.2.2.1,s77.2.2.2.1,s77.2.2.2.2.1,s77.2.2.2.2.2.1,s77.2.2.2.2.2.2.1,s77.2.2.2.2.2.2.2.1,s77.2.2.2.2.2.2.2.2.1,s77.2.2.2.2.2.2.2.2.2.1,s77.2.2.2.2.2.2.2.2.2.2.1,s77.2.1,s77.2.2.2.1,s77.2.2.2.2.1,s77.2.2.2.2.2.1,s77.2.2.2.2.2.2.1,s77.2.2.2.2.2.2.2.1,s77.2.2.2.2.2.2.2.2.1,s77.2.2.2.2.2.2.2.2.2.1,s77.2.2.2.2.2.2.2.2.2.2.1,s77.2.2.2.2.2.2.2.2.2.2.2.2.2.2.1,s77.2.2.2.2.2.2.2.2.2.2.2.2.2.2.2.1))))) (cond ((decide (y87.1.1.2.1>10000000000000000))) (some (.inr (((false,s77.2.2.1,s77.2.2.2.2.2.2.2.2.2.2.2.2.2.2.1,s77.2.2.2.2.2.2.2.2.2.2.2.2.2.2.2.1,s77.2.1,s77.2.2.1,s77.2.2.2.1,s77.2.2.2.2.1,s77.2.2.2.2.2.1,s77.2.2.2.2.2.2.1,s77.2.2.2.2.2.2.2.1,s77.2.2.2.2.2.2.2.2.1,s77.2.2.2.2.2.2.2.2.2.1,s77.2.2.2.2.2.2.2.2.2.2.1,s77.2.1,s77.2.2.2.1,s77.2.2.2.2.1,s77.2.2.2.2.2.1,s77.2.2.2.2.2.2.1,s77.2.2.2.2.2.2.2.1,s77.2.2.2.2.2.2.2.2.1,s77.2.2.2.2.2.2.2.2.2.1,s77.2.2.2.2.2.2.2.2.2.2.1,s77.2.2.2.2.2.2.2.2.2.2.2.2.2.2.1,s77.2.2.2.2.2.2.2.2.2.2.2.2.2.2.2.1))))) (Option.bind (zco ([(s77.2.2.2.1,s77.2.2.2.2.1,s77.2.2.2.2.2.1,s77.2.2.2.2.2.2.1,s77.2.2.2.2.2.2.2.1,s77.2.2.2.2.2.2.2.2.1,()),y87.1.2.1])) fun y93 =>
some (.inl (((w64 (s77.1+1)),(w64 (s77.2.1+100)),s77.2.2.1,y93.1,y93.2.1,y93.2.2.1,y93.2.2.2.1,y93.2.2.2.2.1,y93.2.2.2.2.2.1,(max s77.2.2.2.2.2.2.2.2.2.1 y87.1.2.2.1),(max s77.2.2.2.2.2.2.2.2.2.2.1 y87.1.2.2.2.1),s77.2.2.2.2.2.2.2.2.2.2.2.1,s77.2.2.2.2.2.2.2.2.2.2.2.2.1,s77.2.2.2.2.2.2.2.2.2.2.2.2.2.1,y87.1.1.1,y87.1.1.2.1,s77.2.2.2.2.2.2.2.2.2.2.2.2.2.2.2.2.1,s77.2.2.2.2.2.2.2.2.2.2.2.2.2.2.2.2.2.1,s77.2.2.2.2.2.2.2.2.2.2.2.2.2.2.2.2.2.2.1,s77.2.2.2.2.2.2.2.2.2.2.2.2.2.2.2.2.2.2.2.1,s77.2.2.2.2.2.2.2.2.2.2.2.2.2.2.2.2.2.2.2.2.1,s77.2.2.2.2.2.2.2.2.2.2.2.2.2.2.2.2.2.2.2.2.2.1,s77.2.2.2.2.2.2.2.2.2.2.2.2.2.2.2.2.2.2.2.2.2.2.1,s77.2.2.2.2.2.2.2.2.2.2.2.2.2.2.2.2.2.2.2.2.2.2.2.1,s77.2.2.2.2.2.2.2.2.2.2.2.2.2.2.2.2.2.2.2.2.2.2.2.2)))))))) (cond ((s77.1==36000)) (some (.inr (((false,s77.2.2.1,s77.2.2.2.2.2.2.2.2.2.2.2.2.2.2.1,s77.2.2.2.2.2.2.2.2.2.2.2.2.2.2.2.1,s77.2.1,s77.2.2.1,s77.2.2.2.1,s77.2.2.2.2.1,s77.2.2.2.2.2.1,s77.2.2.2.2.2.2.1,s77.2.2.2.2.2.2.2.1,s77.2.2.2.2.2.2.2.2.1,s77.2.2.2.2.2.2.2.2.2.1,s77.2.2.2.2.2.2.2.2.2.2.1,s77.2.1,s77.2.2.2.1,s77.2.2.2.2.1,s77.2.2.2.2.2.1,s77.2.2.2.2.2.2.1,s77.2.2.2.2.2.2.2.1,s77.2.2.2.2.2.2.2.2.1,s77.2.2.2.2.2.2.2.2.2.1,s77.2.2.2.2.2.2.2.2.2.2.1,s77.2.2.2.2.2.2.2.2.2.2.2.2.2.2.1,s77.2.2.2.2.2.2.2.2.2.2.2.2.2.2.2.1))))) (Option.bind (zaL r_0 ((s77.2.2.2.2.2.2.2.2.2.2.2.2.2.2.1,s77.2.2.2.2.2.2.2.2.2.2.2.2.2.2.2.1,())) stop_2) fun y96 =>
cond ((!y96.2)) (some (.inr (((false,s77.2.2.1,s77.2.2.2.2.2.2.2.2.2.2.2.2.2.2.1,s77.2.2.2.2.2.2.2.2.2.2.2.2.2.2.2.1,s77.2.1,s77.2.2.1,s77.2.2.2.1,s77.2.2.2.2.1,s77.2.2.2.2.2.1,s77.2.2.2.2.2.2.1,s77.2.2.2.2.2.2.2.1,s77.2.2.2.2.2.2.2.2.1,s77.2.2.2.2.2.2.2.2.2.1,s77.2.2.2.2.2.2.2.2.2.2.1,s77.2.1,s77.2.2.2.1,s77.2.2.2.2.1,s77.2.2.2.2.2.1,s77.2.2.2.2.2.2.1,s77.2.2.2.2.2.2.2.1,s77.2.2.2.2.2.2.2.2.1,s77.2.2.2.2.2.2.2.2.2.1,s77.2.2.2.2.2.2.2.2.2.2.1,s77.2.2.2.2.2.2.2.2.2.2.2.2.2.2.1,s77.2.2.2.2.2.2.2.2.2.2.2.2.2.2.2.1))))) (cond ((decide (y96.1.1.2.1>10000000000000000))) (some (.inr (((false,s77.2.2.1,s77.2.2.2.2.2.2.2.2.2.2.2.2.2.2.1,s77.2.2.2.2.2.2.2.2.2.2.2.2.2.2.2.1,s77.2.1,s77.2.2.1,s77.2.2.2.1,s77.2.2.2.2.1,s77.2.2.2.2.2.1,s77.2.2.2.2.2.2.1,s77.2.2.2.2.2.2.2.1,s77.2.2.2.2.2.2.2.2.1,s77.2.2.2.2.2.2.2.2.2.1,s77.2.2.2.2.2.2.2.2.2.2.1,s77.2.1,s77.2.2.2.1,s77.2.2.2.2.1,s77.2.2.2.2.2.1,s77.2.2.2.2.2.2.1,s77.2.2.2.2.2.2.2.1,s77.2.2.2.2.2.2.2.2.1,s77.2.2.2.2.2.2.2.2.2.1,s77.2.2.2.2.2.2.2.2.2.2.1,s77.2.2.2.2.2.2.2.2.2.2.2.2.2.2.1,s77.2.2.2.2.2.2.2.2.2.2.2.2.2.2.2.1))))) (Option.bind (zco ([(s77.2.2.2.1,s77.2.2.2.2.1,s77.2.2.2.2.2.1,s77.2.2.2.2.2.2.1,s77.2.2.2.2.2.2.2.1,s77.2.2.2.2.2.2.2.2.1,()),y96.1.2.1])) fun y102 =>
some (.inl (((w64 (s77.1+1)),(w64 (s77.2.1+100)),s77.2.2.1,y102.1,y102.2.1,y102.2.2.1,y102.2.2.2.1,y102.2.2.2.2.1,y102.2.2.2.2.2.1,(max s77.2.2.2.2.2.2.2.2.2.1 y96.1.2.2.1),(max s77.2.2.2.2.2.2.2.2.2.2.1 y96.1.2.2.2.1),s77.2.2.2.2.2.2.2.2.2.2.2.1,s77.2.2.2.2.2.2.2.2.2.2.2.2.1,s77.2.2.2.2.2.2.2.2.2.2.2.2.2.1,y96.1.1.1,y96.1.1.2.1,s77.2.2.2.2.2.2.2.2.2.2.2.2.2.2.2.2.1,s77.2.2.2.2.2.2.2.2.2.2.2.2.2.2.2.2.2.1,s77.2.2.2.2.2.2.2.2.2.2.2.2.2.2.2.2.2.2.1,s77.2.2.2.2.2.2.2.2.2.2.2.2.2.2.2.2.2.2.2.1,s77.2.2.2.2.2.2.2.2.2.2.2.2.2.2.2.2.2.2.2.2.1,s77.2.2.2.2.2.2.2.2.2.2.2.2.2.2.2.2.2.2.2.2.2.1,s77.2.2.2.2.2.2.2.2.2.2.2.2.2.2.2.2.2.2.2.2.2.2.1,s77.2.2.2.2.2.2.2.2.2.2.2.2.2.2.2.2.2.2.2.2.2.2.2.1,s77.2.2.2.2.2.2.2.2.2.2.2.2.2.2.2.2.2.2.2.2.2.2.2.2)))))))) big ((0,0,0,0,0,0,0,0,0,0,0,0,0,0,x_1.1,x_1.2.1,0,0,0,0,0,0,0,0,0))) fun t103 =>
some (((t103.2.2.2.2.1,t103.2.2.2.2.2.1,(t103.2.2.2.2.2.2.1,t103.2.2.2.2.2.2.2.1,t103.2.2.2.2.2.2.2.2.1,t103.2.2.2.2.2.2.2.2.2.1,t103.2.2.2.2.2.2.2.2.2.2.1,t103.2.2.2.2.2.2.2.2.2.2.2.1,()),t103.2.2.2.2.2.2.2.2.2.2.2.2.1,t103.2.2.2.2.2.2.2.2.2.2.2.2.2.1,()),(t103.2.2.1,t103.2.2.2.1,()),t103.1))
def zbI (p_0:Plan) (way_1:(List zR)) (t_2:Train) (state_3:Int) (stops_4:(List Int)):Option ((List Leg)×Int) :=
Option.bind (zc7 p_0 way_1 t_2 state_3 stops_4) fun y1 =>
cond ((!y1.2)) (some (([],2))) (Option.bind (idx stops_4 0) fun x5 =>
Option.bind (slO stops_4 1 ((zz stops_4))) fun x7 =>
Option.bind (iter (σ:=((List Leg)×Int×Int×Int)) (τ:=((List Leg)×Int×Int)⊕((List Leg)×Int×Int×Int)) (fun s32 =>
cond ((decide (s32.2.1<(zz x7)))) (Option.bind (idx x7 s32.2.1) fun x35 =>
Option.bind (y1.1) fun p36 =>
Option.bind (zbb p36 ((s32.2.2.1,s32.2.2.2,())) x35) fun y37 =>
cond ((!y37.2.2)) (some (.inr ((.inr (([],4,s32.2.2.1,s32.2.2.2)))))) (cond ((decide (s32.2.2.2>10000000000000000))) (some (.inr ((.inr (([],4,s32.2.2.1,s32.2.2.2)))))) (Option.bind (zdJ 80 s32.1 ([y37.1])) fun x44 =>
some (.inl ((x44,(w64 (s32.2.1+1)),y37.2.1.1,y37.2.1.2.1)))))) (some (.inr ((.inl ((s32.1,s32.2.2.1,s32.2.2.2))))))) big (([],0,0,(w64 ((w64 (10*t_2.1))*x5))))) fun t46 =>
alt (fun b48=>some ((b48.1,0))) (fun b49=>some ((b49.1,b49.2.1))) t46)
def zaM (l_0:(List Leg)) (field_1:((Leg)->Option (Int))):Option ((List Int)) :=
Option.bind (iter (σ:=((List Int)×Int)) (τ:=((List Int))) (fun s7 =>
cond ((decide (s7.2<(zz l_0)))) (Option.bind (idx l_0 s7.2) fun x10 =>
Option.bind (field_1 x10) fun y12 =>
Option.bind (zdJ 8 s7.1 ([y12])) fun x13 =>
some (.inl ((x13,(w64 (s7.2+1)))))) (some (.inr s7.1))) big (([],0))) fun t15 =>
some t15
def zc8 (x_0:Leg):Option (Int) :=
some x_0.1
def zbv (p_0:Plan) (way_1:(List zR)) (t_2:Train) (state_3:Int) (stops_4:(List Int)):Option ((List Int)×Int) :=
Option.bind (zbI p_0 way_1 t_2 state_3 stops_4) fun y1 =>
cond ((y1.2 !=0)) (some (([],y1.2))) (Option.bind (zaM y1.1 ((fun x=>zc8 x))) fun y4 =>
some ((y4,0)))
def za5 (p_0:Plan) (l_1:Line) (c_2:Course):Option ((List Int)×(List Int)×Bool) :=
Option.bind (zbK p_0 c_2.1) fun y1 =>
Option.bind (cond ((y1.2 !=0)) (some true) (Option.bind (zae ((zz c_2.2.1)) 2 60) fun y11 =>
cond ((!y11)) (some true) (cond (((zz c_2.2.2.1)!=(zz c_2.2.1))) (some true) (Option.bind (idx c_2.2.2.1 0) fun x14 =>
cond ((x14 !=0)) (some true) (Option.bind (idx c_2.2.2.1 ((w64 ((zz c_2.2.1)-1)))) fun x16 =>
some ((x16 !=0))))))) fun c9 =>
cond (c9) (some (([],[],false))) (Option.bind (iter (σ:=(Int)) (τ:=Unit⊕((List Int)×(List Int)×Bool)) (fun s42 =>
cond ((decide (s42<(zz c_2.2.1)))) (Option.bind (idx c_2.2.1 s42) fun x45 =>
Option.bind (zae x45 1 y1.1) fun y55 =>
cond ((!y55)) (some (.inr ((.inr (([],[],false)))))) (cond ((decide (s42>0))) (Option.bind (idx c_2.2.1 ((w64 (s42-1)))) fun x59 =>
cond ((decide (x45≤x59))) (some (.inr ((.inr (([],[],false)))))) (Option.bind (idx c_2.2.2.1 s42) fun x62 =>
Option.bind (zae x62 0 600) fun y63 =>
cond ((!y63)) (some (.inr ((.inr (([],[],false)))))) (some (.inl ((w64 (s42+1))))))) (Option.bind (idx c_2.2.2.1 s42) fun x65 =>
Option.bind (zae x65 0 600) fun y66 =>
cond ((!y66)) (some (.inr ((.inr (([],[],false)))))) (some (.inl ((w64 (s42+1)))))))) (some (.inr ((.inl (())))))) big 0) fun t68 =>
alt (fun b70=>Option.bind (zbv p_0 c_2.1 l_1.2.2.1 l_1.2.2.2.1 c_2.2.1) fun y72 =>
Option.bind (cond ((y72.2 !=0)) (some true) (some (((zz y72.1)!=(w64 ((zz c_2.2.1)-1)))))) fun c75 =>
cond (c75) (some (([],[],false))) (Option.bind (mkO 8 ((zz c_2.2.1)) (0:Int)) fun x78 =>
Option.bind (mkO 8 ((zz c_2.2.1)) (0:Int)) fun x80 =>
Option.bind (iter (σ:=(Int×(List Int)×(List Int))) (τ:=((List Int)×(List Int))) (fun s106 =>
cond ((decide (s106.1<(zz y72.1)))) (Option.bind (idx y72.1 s106.1) fun x109 =>
Option.bind (zcV .i64 ((w64 (x109+999))) 1000) fun x110 =>
Option.bind (idx s106.2.2 ((w64 (s106.1+1)))) fun x111 =>
Option.bind (idx s106.2.1 s106.1) fun x116 =>
Option.bind (idx ((s106.2.2).set (Int.toNat ((w64 (s106.1+1)))) ((max 1 x110))) ((w64 (s106.1+1)))) fun x117 =>
Option.bind (idx c_2.2.2.1 ((w64 (s106.1+1)))) fun x118 =>
Option.bind (idx s106.2.1 ((w64 (s106.1+1)))) fun x119 =>
some (.inl (((w64 (s106.1+1)),(s106.2.1).set (Int.toNat ((w64 (s106.1+1)))) ((w64 ((w64 (x116+x117))+x118))),(s106.2.2).set (Int.toNat ((w64 (s106.1+1)))) ((max 1 x110)))))) (some (.inr (((s106.2.1,s106.2.2)))))) big ((0,x80,x78))) fun t120 =>
Option.bind (idx t120.1 ((w64 ((zz c_2.2.1)-1)))) fun x123 =>
some ((t120.2,t120.1,(decide (x123≤50000)))))) (fun b71=>some ((b71.1,b71.2.1,b71.2.2))) t68)
def zbq (p_0:Plan) (l_1:Line):Option ((Option zL)×Bool) :=
Option.bind (Option.bind (zcX p_0) fun y5 =>
cond ((y5 !=0)) (some true) (Option.bind (zae l_1.2.2.2.2.1 0 3600) fun y7 =>
some ((!y7)))) fun c4 =>
cond (c4) (some (((none:Option zL),false))) (Option.bind (zcY l_1) fun y10 =>
Option.bind (iter (σ:=(Int×(List Int)×(List Int)×(List Int)×(List Int))) (τ:=((List Int)×(List Int)×(List Int)×(List Int))⊕((Option zL)×Bool×(List Int)×(List Int)×(List Int)×(List Int))) (fun s39 =>
cond ((decide (s39.1<2))) (Option.bind (idx y10 s39.1) fun x42 =>
Option.bind (za5 p_0 l_1 x42) fun y49 =>
Option.bind (idx [(),()] s39.1) fun x52 =>
Option.bind (idx [(),()] s39.1) fun x53 =>
cond ((!y49.2.2)) (some (.inr ((.inr (((none:Option zL),false,cond (s39.1==0) y49.1 s39.2.1,cond (s39.1==1) y49.1 s39.2.2.1,cond (s39.1==0) y49.2.1 s39.2.2.2.1,cond (s39.1==1) y49.2.1 s39.2.2.2.2)))))) (some (.inl (((w64 (s39.1+1)),cond (s39.1==0) y49.1 s39.2.1,cond (s39.1==1) y49.1 s39.2.2.1,cond (s39.1==0) y49.2.1 s39.2.2.2.1,cond (s39.1==1) y49.2.1 s39.2.2.2.2))))) (some (.inr ((.inl ((s39.2.1,s39.2.2.1,s39.2.2.2.1,s39.2.2.2.2))))))) big ((0,[],[],[],[]))) fun t55 =>
alt (fun b57=>some (((some ((((l_1.1.1,l_1.1.2.1,l_1.1.2.2.1,()),(l_1.2.1.1,l_1.2.1.2.1,l_1.2.1.2.2.1,()),(l_1.2.2.1.1,l_1.2.2.1.2.1,l_1.2.2.1.2.2.1,l_1.2.2.1.2.2.2.1,l_1.2.2.1.2.2.2.2.1,l_1.2.2.1.2.2.2.2.2.1,l_1.2.2.1.2.2.2.2.2.2.1,l_1.2.2.1.2.2.2.2.2.2.2.1,l_1.2.2.1.2.2.2.2.2.2.2.2.1,l_1.2.2.1.2.2.2.2.2.2.2.2.2.1,()),l_1.2.2.2.1,l_1.2.2.2.2.1,()),[b57.1,b57.2.1],[b57.2.2.1,b57.2.2.2],()))),true))) (fun b58=>some ((b58.1,b58.2.1))) t55)
def zd2 (home_0:Bool):Option (Int) :=
cond (home_0) (some 1) (some 0)
def zaA (p_0:Plan) (l_1:Line) (home_2:Bool):Option ((List Int)×Int) :=
Option.bind (zbq p_0 l_1) fun y1 =>
cond ((!y1.2)) (some (([],2))) (Option.bind (zd2 home_2) fun y6 =>
Option.bind (y1.1) fun p7 =>
Option.bind (idx p7.2.2.1 y6) fun x8 =>
some ((x8,0)))
def zao (r_0:zL) (side_1:Int):Option (Int) :=
Option.bind (idx r_0.2.2.1 side_1) fun x4 =>
Option.bind (idx r_0.2.2.1 side_1) fun x5 =>
Option.bind (idx x4 ((w64 ((zz x5)-1)))) fun x6 =>
some x6
def zaR (r_0:zL):Option (Int) :=
Option.bind (zao r_0 0) fun y3 =>
Option.bind (zao r_0 1) fun y4 =>
some ((w64 ((w64 (y3+y4))+(w64 (2*r_0.1.2.2.2.2.1)))))
def zbR (p_0:Plan) (l_1:Line):Option (Int×Int) :=
Option.bind (zbq p_0 l_1) fun y1 =>
cond ((!y1.2)) (some ((0,2))) (Option.bind (y1.1) fun p3 =>
Option.bind (zaR p3) fun y4 =>
some ((y4,0)))
def zbj (r_0:zL) (headway_1:Int):Option (Int) :=
Option.bind (zaR r_0) fun y1 =>
Option.bind (zcV .i64 ((w64 ((w64 (y1+headway_1))-1))) headway_1) fun x2 =>
some x2
def za2 (p_0:Plan) (l_1:Line) (headway_2:Int):Option (Int×Int) :=
Option.bind (zbq p_0 l_1) fun y1 =>
Option.bind (cond ((!y1.2)) (some true) (Option.bind (zae headway_2 30 7200) fun y6 =>
some ((!y6)))) fun c4 =>
cond (c4) (some ((0,2))) (Option.bind (y1.1) fun p8 =>
Option.bind (zbj p8 headway_2) fun y9 =>
some ((y9,0)))
def zc9 (length_0:Int):Option (Plan×Line) :=
Option.bind (zcV .i64 length_0 2) fun x5 =>
Option.bind (zcV .i64 length_0 2) fun x7 =>
some (((([(((0,0,()),1,[((0,false,()):zq)],0,()):zbT),((((length_0,0,()):Spot),1,[((0,true,()):zq)],0,()):zbT)],[((0,1,[],8000,0,()):Rail)],()):Plan),(((([((0,false,()):zR)],[1000,x5,length_0],[0,20,0],()):Course),(([((0,true,()):zR)],[1000,x7,length_0],[0,10,0],()):Course),((1000,1000,8000,2000,2000,1000000,0,0,0,[1000],()):Train),0,30,()):Line)))
def zaF :Option (Bool) :=
Option.bind (zc9 21000) fun y1 =>
Option.bind (zbv y1.1 y1.2.1.1 y1.2.2.2.1 0 y1.2.1.2.1) fun y4 =>
Option.bind (zaA y1.1 y1.2 false) fun y6 =>
Option.bind (zaA y1.1 y1.2 true) fun y7 =>
Option.bind (zbR y1.1 y1.2) fun y8 =>
Option.bind (cond ((y4.2 !=0)) (some true) (cond ((y6.2 !=0)) (some true) (cond ((y7.2 !=0)) (some true) (cond ((y8.2 !=0)) (some true) (cond (((zz y4.1)!=2)) (some true) (cond (((zz y6.1)!=3)) (some true) (some (((zz y7.1)!=3))))))))) fun c15 =>
cond (c15) (some false) (Option.bind (idx y4.1 0) fun x27 =>
Option.bind (zcV .i64 ((w64 (x27+999))) 1000) fun x28 =>
Option.bind (idx y4.1 1) fun x29 =>
Option.bind (zcV .i64 ((w64 (x29+999))) 1000) fun x30 =>
Option.bind (za2 y1.1 y1.2 y8.1) fun y31 =>
Option.bind (za2 y1.1 y1.2 ((w64 (y8.1-1)))) fun y32 =>
Option.bind (Option.bind (idx y6.1 0) fun x58 =>
cond ((x58==0)) (Option.bind (idx y6.1 1) fun x60 =>
cond ((x60==(w64 (x28+20)))) (Option.bind (idx y6.1 2) fun x62 =>
cond ((x62==(w64 ((w64 (x28+x30))+20)))) (Option.bind (idx y6.1 2) fun x64 =>
Option.bind (idx y7.1 2) fun x65 =>
cond ((y8.1==(w64 ((w64 (x64+x65))+60)))) (cond ((y31.2==0)) (cond ((y32.2==0)) (cond ((y31.1==1)) (some ((y32.1==2))) (some false)) (some false)) (some false)) (some false)) (some false)) (some false)) (some false)) fun c57 =>
some c57)
def zcw (n_0:Int) (low_1:Int) (high_2:Int):Option (Bool) :=
Option.bind (cond ((decide (n_0≥low_1))) (some ((decide (n_0≤high_2)))) (some false)) fun c2 =>
some c2
def zda (l_0:Line) (home_1:Bool):Option (Course) :=
cond (home_1) (some l_0.2.1) (some l_0.1)
def zds (p_0:Plan) (m_1:zR):Option (Bool) :=
Option.bind (zag m_1.1 0 ((w64 ((zz p_0.2.1)-1)))) fun y1 =>
some y1
def zdB (m_0:zR):Option (zq) :=
some (((m_0.1,(!m_0.2.1),()):zq))
def zcZ (n_0:zbT) (e_1:zq):Option (Int) :=
Option.bind (iter (σ:=(Int)) (τ:=Unit⊕(Int)) (fun s5 =>
cond ((decide (s5<(zz n_0.2.2.1)))) (Option.bind (idx n_0.2.2.1 s5) fun x9 =>
cond ((x9==e_1)) (some (.inr ((.inr s5)))) (some (.inl ((w64 (s5+1)))))) (some (.inr ((.inl (())))))) big 0) fun t11 =>
alt (fun b13=>some ((-1))) (fun b14=>some b14) t11
def ze1 (m_0:zR):Option (zq) :=
some (((m_0.1,m_0.2.1,()):zq))
def zec (n_0:zbT) (a_1:Int) (b_2:Int):Option (Bool) :=
cond ((n_0.2.1==2)) (some ((a_1 !=b_2))) (cond ((n_0.2.1==3)) (Option.bind (cond ((a_1 !=b_2)) (Option.bind (zuC ((w64 (a_1+b_2))) 2) fun x7 =>
some ((x7==0))) (some false)) fun c5 =>
some c5) (cond ((n_0.2.1==4)) (Option.bind (cond ((a_1==0)) (cond ((decide (b_2>0))) (some true) (cond ((decide (a_1>0))) (some ((b_2==0))) (some false))) (cond ((decide (a_1>0))) (some ((b_2==0))) (some false))) fun c13 =>
some c13) (cond ((n_0.2.1==5)) (Option.bind (cond ((a_1==0)) (cond ((b_2==n_0.2.2.2.1)) (some true) (cond ((decide (a_1>0))) (some ((b_2==0))) (some false))) (cond ((decide (a_1>0))) (some ((b_2==0))) (some false))) fun c23 =>
some c23) (cond ((n_0.2.1==6)) (Option.bind (cond ((a_1==0)) (cond ((b_2==n_0.2.2.2.1)) (some true) (cond ((a_1==n_0.2.2.2.1)) (some ((b_2==0))) (some false))) (cond ((a_1==n_0.2.2.2.1)) (some ((b_2==0))) (some false))) fun c33 =>
some c33) (some false)))))
def zcf (p_0:Plan) (m_1:zR) (n_2:zR):Option (Bool) :=
Option.bind (zdB m_1) fun y3 =>
Option.bind (zdY p_0 y3) fun y4 =>
Option.bind (idx p_0.1 y4) fun x5 =>
Option.bind (zdB m_1) fun y11 =>
Option.bind (zcZ x5 y11) fun y12 =>
Option.bind (ze1 n_2) fun y13 =>
Option.bind (zcZ x5 y13) fun y14 =>
Option.bind (cond ((decide (y12≥0))) (cond ((decide (y14≥0))) (Option.bind (zec x5 y12 y14) fun y21 =>
some y21) (some false)) (some false)) fun c18 =>
some c18
def zd0 (p_0:Plan) (l_1:(List zR)):Option (Bool) :=
Option.bind (iter (σ:=(Int)) (τ:=Unit⊕(Bool)) (fun s26 =>
cond ((decide (s26<(zz l_1)))) (Option.bind (idx l_1 s26) fun x43 =>
Option.bind (zds p_0 x43) fun y44 =>
cond ((!y44)) (some (.inr ((.inr false)))) (cond ((decide (s26>0))) (Option.bind (idx l_1 ((w64 (s26-1)))) fun x48 =>
Option.bind (idx l_1 s26) fun x49 =>
Option.bind (zcf p_0 x48 x49) fun y50 =>
cond ((!y50)) (some (.inr ((.inr false)))) (some (.inl ((w64 (s26+1)))))) (some (.inl ((w64 (s26+1))))))) (some (.inr ((.inl (())))))) big 0) fun t53 =>
alt (fun b55=>Option.bind (zag ((zz l_1)) 1 2000) fun y57 =>
some y57) (fun b56=>some b56) t53
def zbM (p_0:Plan) (l_1:(List zR)):Option (Int) :=
Option.bind (iter (σ:=(Int×Int)) (τ:=(Int)) (fun s6 =>
cond ((decide (s6.2<(zz l_1)))) (Option.bind (idx l_1 s6.2) fun x11 =>
Option.bind (zaz p_0 x11.1) fun y12 =>
some (.inl (((w64 (s6.1+y12)),(w64 (s6.2+1)))))) (some (.inr s6.1))) big ((0,0))) fun t13 =>
some t13
def za7 (x_0:Int) (low_1:Int) (high_2:Int):Option (Bool) :=
Option.bind (cond ((decide (x_0≥low_1))) (some ((decide (x_0≤high_2)))) (some false)) fun c2 =>
some c2
def zdC (t_0:Train):Option (Bool) :=
Option.bind (Option.bind (za7 t_0.1 1000 80000) fun y21 =>
cond ((!y21)) (some true) (Option.bind (za7 t_0.2.1 1 60000) fun y23 =>
cond ((!y23)) (some true) (Option.bind (za7 t_0.2.2.1 1 25000) fun y25 =>
cond ((!y25)) (some true) (Option.bind (za7 t_0.2.2.2.1 1 200000) fun y27 =>
cond ((!y27)) (some true) (Option.bind (za7 t_0.2.2.2.2.1 1 200000) fun y29 =>
cond ((!y29)) (some true) (Option.bind (za7 t_0.2.2.2.2.2.1 1 2000000) fun y31 =>
cond ((!y31)) (some true) (Option.bind (za7 t_0.2.2.2.2.2.2.1 0 100000) fun y33 =>
cond ((!y33)) (some true) (Option.bind (za7 t_0.2.2.2.2.2.2.2.1 0 10000) fun y35 =>
cond ((!y35)) (some true) (Option.bind (za7 t_0.2.2.2.2.2.2.2.2.1 0 100) fun y37 =>
cond ((!y37)) (some true) (Option.bind (za7 ((zz t_0.2.2.2.2.2.2.2.2.2.1)) 1 8) fun y39 =>
some ((!y39)))))))))))) fun c20 =>
cond (c20) (some false) (Option.bind (iter (σ:=(Int)) (τ:=Unit⊕(Bool)) (fun s45 =>
cond ((decide (s45<(zz t_0.2.2.2.2.2.2.2.2.2.1)))) (Option.bind (idx t_0.2.2.2.2.2.2.2.2.2.1 s45) fun x48 =>
Option.bind (za7 x48 1 1000) fun y49 =>
cond ((!y49)) (some (.inr ((.inr false)))) (some (.inl ((w64 (s45+1)))))) (some (.inr ((.inl (())))))) big 0) fun t51 =>
alt (fun b53=>some true) (fun b54=>some b54) t51)
def zdD (p_0:Plan) (way_1:(List zR)) (t_2:Train) (state_3:Int) (stops_4:(List Int)):Option (Bool) :=
Option.bind (Option.bind (zbW p_0) fun y24 =>
cond ((!y24)) (some true) (Option.bind (zd0 p_0 way_1) fun y26 =>
cond ((!y26)) (some true) (Option.bind (zdC t_2) fun y28 =>
cond ((!y28)) (some true) (Option.bind (za7 state_3 0 ((w64 ((zz t_2.2.2.2.2.2.2.2.2.2.1)-1)))) fun y30 =>
cond ((!y30)) (some true) (Option.bind (za7 ((zz stops_4)) 2 100) fun y32 =>
cond ((!y32)) (some true) (Option.bind (idx stops_4 0) fun x34 =>
some ((decide (x34<t_2.2.1))))))))) fun c23 =>
cond (c23) (some false) (Option.bind (iter (σ:=(Int)) (τ:=Unit⊕(Bool)) (fun s42 =>
cond ((decide (s42<(zz stops_4)))) (Option.bind (idx stops_4 s42) fun x47 =>
Option.bind (idx stops_4 ((w64 (s42-1)))) fun x48 =>
cond ((decide (x47≤x48))) (some (.inr ((.inr false)))) (some (.inl ((w64 (s42+1)))))) (some (.inr ((.inl (())))))) big 1) fun t50 =>
alt (fun b52=>Option.bind (idx stops_4 ((w64 ((zz stops_4)-1)))) fun x56 =>
Option.bind (zbM p_0 way_1) fun y57 =>
some ((decide (x56≤y57)))) (fun b53=>some b53) t50)
def zP (t_0:Train) (x_1:zf):Option (Int) :=
Option.bind (zcV .i64 x_1.2.1 ((w64 (10*t_0.1)))) fun x1 =>
some x1
def zaX (r_0:zac) (place_1:Int):Option (Int) :=
Option.bind (iter (σ:=(Int×Int)) (τ:=Unit⊕(Int)) (fun s30 =>
cond ((decide (s30.2<(zz r_0.2.1)))) (Option.bind (idx r_0.2.1 s30.2) fun x35 =>
Option.bind (zaz r_0.1 x35.1) fun y36 =>
cond ((decide (place_1<(w64 (s30.1+y36))))) (Option.bind (idx r_0.2.1 s30.2) fun x40 =>
cond (x40.2.1) (Option.bind (idx r_0.2.1 s30.2) fun x44 =>
Option.bind (idx r_0.1.2.1 x44.1) fun x45 =>
some (.inr ((.inr ((w64 (0-x45.2.2.2.2.1))))))) (Option.bind (idx r_0.2.1 s30.2) fun x48 =>
Option.bind (idx r_0.1.2.1 x48.1) fun x49 =>
some (.inr ((.inr x49.2.2.2.2.1))))) (cond ((s30.2==(w64 ((zz r_0.2.1)-1)))) (Option.bind (idx r_0.2.1 s30.2) fun x51 =>
cond (x51.2.1) (Option.bind (idx r_0.2.1 s30.2) fun x55 =>
Option.bind (idx r_0.1.2.1 x55.1) fun x56 =>
some (.inr ((.inr ((w64 (0-x56.2.2.2.2.1))))))) (Option.bind (idx r_0.2.1 s30.2) fun x59 =>
Option.bind (idx r_0.1.2.1 x59.1) fun x60 =>
some (.inr ((.inr x60.2.2.2.2.1))))) (some (.inl (((w64 (s30.1+y36)),(w64 (s30.2+1)))))))) (some (.inr ((.inl (())))))) big ((0,0))) fun t61 =>
alt (fun b63=>some 0) (fun b64=>some b64) t61
def zcx (t_0:Train) (speed_1:Int) (demand_2:Int) (slope_3:Int) (state_4:Int):Option (Int×Int×Int×Int) :=
Option.bind (idx t_0.2.2.2.2.2.2.2.2.2.1 state_4) fun x3 =>
Option.bind (zcV .i64 ((w64 ((w64 (x3*t_0.1))*981))) 100000) fun x4 =>
cond ((decide (demand_2>0))) (Option.bind (zcV .i64 ((w64 (t_0.2.2.2.1*demand_2))) 4) fun x6 =>
cond ((decide (speed_1>0))) (Option.bind (zcV .i64 ((w64 (1000*t_0.2.2.2.2.2.1))) speed_1) fun x8 =>
cond ((decide (demand_2<0))) (Option.bind (zcV .i64 ((w64 (t_0.2.2.2.2.1*(w64 (0-demand_2))))) 4) fun x10 =>
Option.bind (zcV .i64 ((w64 (t_0.2.2.2.2.2.2.2.1*speed_1))) 1000) fun x13 =>
Option.bind (zcV .i64 ((w64 ((w64 (t_0.1*slope_3))*981))) 100000) fun x14 =>
some (((min ((min x6 x4)) x8),(min x10 x4),(w64 (t_0.2.2.2.2.2.2.1+x13)),x14))) (Option.bind (zcV .i64 ((w64 (t_0.2.2.2.2.2.2.2.1*speed_1))) 1000) fun x17 =>
Option.bind (zcV .i64 ((w64 ((w64 (t_0.1*slope_3))*981))) 100000) fun x18 =>
some (((min ((min x6 x4)) x8),0,(w64 (t_0.2.2.2.2.2.2.1+x17)),x18)))) (cond ((decide (demand_2<0))) (Option.bind (zcV .i64 ((w64 (t_0.2.2.2.2.1*(w64 (0-demand_2))))) 4) fun x20 =>
Option.bind (zcV .i64 ((w64 (t_0.2.2.2.2.2.2.2.1*speed_1))) 1000) fun x23 =>
Option.bind (zcV .i64 ((w64 ((w64 (t_0.1*slope_3))*981))) 100000) fun x24 =>
some (((min x6 x4),(min x20 x4),(w64 (t_0.2.2.2.2.2.2.1+x23)),x24))) (Option.bind (zcV .i64 ((w64 (t_0.2.2.2.2.2.2.2.1*speed_1))) 1000) fun x27 =>
Option.bind (zcV .i64 ((w64 ((w64 (t_0.1*slope_3))*981))) 100000) fun x28 =>
some (((min x6 x4),0,(w64 (t_0.2.2.2.2.2.2.1+x27)),x28))))) (cond ((decide (demand_2<0))) (Option.bind (zcV .i64 ((w64 (t_0.2.2.2.2.1*(w64 (0-demand_2))))) 4) fun x30 =>
Option.bind (zcV .i64 ((w64 (t_0.2.2.2.2.2.2.2.1*speed_1))) 1000) fun x33 =>
Option.bind (zcV .i64 ((w64 ((w64 (t_0.1*slope_3))*981))) 100000) fun x34 =>
some ((0,(min x30 x4),(w64 (t_0.2.2.2.2.2.2.1+x33)),x34))) (Option.bind (zcV .i64 ((w64 (t_0.2.2.2.2.2.2.2.1*speed_1))) 1000) fun x37 =>
Option.bind (zcV .i64 ((w64 ((w64 (t_0.1*slope_3))*981))) 100000) fun x38 =>
some ((0,0,(w64 (t_0.2.2.2.2.2.2.1+x37)),x38))))
def zaE (t_0:Train) (x_1:zf) (demand_2:Int) (slope_3:Int) (state_4:Int):Option (zf×zam×Bool) :=
Option.bind (zcV .i64 x_1.1 t_0.1) fun x5 =>
Option.bind (zcx t_0 x5 demand_2 slope_3 state_4) fun y6 =>
Option.bind (cond ((decide ((w64 (x_1.1+(w64 (100*(w64 ((w64 ((w64 (y6.1-y6.2.1))-y6.2.2.1))-y6.2.2.2))))))<0))) (some true) (cond ((x_1.1==0)) (some ((decide ((w64 ((w64 ((w64 (y6.1-y6.2.1))-y6.2.2.1))-y6.2.2.2))≤0)))) (some false))) fun c10 =>
cond (c10) (some ((((0,(w64 (x_1.2.1+0)),()):zf),(0,0,0,0,0,(w64 (x_1.1*x_1.1)),()),(decide (0≤(w64 (25000*t_0.1))))))) (some (((((w64 (x_1.1+(w64 (100*(w64 ((w64 ((w64 (y6.1-y6.2.1))-y6.2.2.1))-y6.2.2.2)))))),(w64 (x_1.2.1+(w64 (x_1.1+(w64 (100*(w64 ((w64 ((w64 (y6.1-y6.2.1))-y6.2.2.1))-y6.2.2.2)))))))),()):zf),(((w64 ((w64 (200*y6.1))*(w64 (x_1.1+(w64 (100*(w64 ((w64 ((w64 (y6.1-y6.2.1))-y6.2.2.1))-y6.2.2.2)))))))),(w64 ((w64 (200*y6.2.1))*(w64 (x_1.1+(w64 (100*(w64 ((w64 ((w64 (y6.1-y6.2.1))-y6.2.2.1))-y6.2.2.2)))))))),(w64 ((w64 (200*y6.2.2.1))*(w64 (x_1.1+(w64 (100*(w64 ((w64 ((w64 (y6.1-y6.2.1))-y6.2.2.1))-y6.2.2.2)))))))),(w64 ((w64 (200*y6.2.2.2))*(w64 (x_1.1+(w64 (100*(w64 ((w64 ((w64 (y6.1-y6.2.1))-y6.2.2.1))-y6.2.2.2)))))))),(w64 ((w64 (10000*(w64 ((w64 ((w64 (y6.1-y6.2.1))-y6.2.2.1))-y6.2.2.2))))*(w64 ((w64 ((w64 (y6.1-y6.2.1))-y6.2.2.1))-y6.2.2.2)))),0,()):zam),(decide ((w64 (x_1.1+(w64 (100*(w64 ((w64 ((w64 (y6.1-y6.2.1))-y6.2.2.1))-y6.2.2.2))))))≤(w64 (25000*t_0.1)))))))
def zdb (p_0:Plan) (l_1:(List zR)) (front_2:Int) (length_3:Int):Option ((List Cover)) :=
Option.bind (iter (σ:=((List Cover)×Int×Int)) (τ:=((List Cover))) (fun s15 =>
cond ((decide (s15.2.2<(zz l_1)))) (Option.bind (idx l_1 s15.2.2) fun x20 =>
Option.bind (zaz p_0 x20.1) fun y21 =>
cond ((decide ((w64 ((max ((w64 (front_2-length_3))) s15.2.1)-s15.2.1))≥(w64 ((min front_2 ((w64 (s15.2.1+y21))))-s15.2.1))))) (some (.inl ((s15.1,(w64 (s15.2.1+y21)),(w64 (s15.2.2+1)))))) (Option.bind (idx l_1 s15.2.2) fun x23 =>
cond (x23.2.1) (Option.bind (idx l_1 s15.2.2) fun x25 =>
Option.bind (zdJ 24 s15.1 ([((x25.1,(w64 (y21-(w64 ((min front_2 ((w64 (s15.2.1+y21))))-s15.2.1)))),(w64 (y21-(w64 ((max ((w64 (front_2-length_3))) s15.2.1)-s15.2.1)))),()):Cover)])) fun x26 =>
some (.inl ((x26,(w64 (s15.2.1+y21)),(w64 (s15.2.2+1)))))) (Option.bind (idx l_1 s15.2.2) fun x28 =>
Option.bind (zdJ 24 s15.1 ([((x28.1,(w64 ((max ((w64 (front_2-length_3))) s15.2.1)-s15.2.1)),(w64 ((min front_2 ((w64 (s15.2.1+y21))))-s15.2.1)),()):Cover)])) fun x29 =>
some (.inl ((x29,(w64 (s15.2.1+y21)),(w64 (s15.2.2+1)))))))) (some (.inr s15.1))) big (([],0,0))) fun t31 =>
some t31
def zc0 (p_0:Plan) (way_1:(List zR)) (t_2:Train) (place_3:Int):Option (Int) :=
Option.bind (zdb p_0 way_1 place_3 t_2.2.1) fun y1 =>
Option.bind (iter (σ:=(Int×Int)) (τ:=(Int)) (fun s8 =>
cond ((decide (s8.2<(zz y1)))) (Option.bind (idx y1 s8.2) fun x13 =>
Option.bind (idx p_0.2.1 x13.1) fun x14 =>
some (.inl (((min s8.1 x14.2.2.2.1),(w64 (s8.2+1)))))) (some (.inr s8.1))) big ((t_2.2.2.1,0))) fun t15 =>
some t15
def zdt (r_0:zac) (x_1:zf):Option (Bool) :=
Option.bind (iter (σ:=(Int×Int×Int)) (τ:=(Bool×Int×Int)) (fun s54 =>
Option.bind (zP r_0.2.2.1 ((s54.2.1,s54.2.2,()))) fun y66 =>
cond ((decide (y66>r_0.2.2.2.2.1))) (some (.inr (((false,s54.2.1,s54.2.2))))) (Option.bind (zcV .i64 s54.2.1 r_0.2.2.1.1) fun x69 =>
Option.bind (zP r_0.2.2.1 ((s54.2.1,s54.2.2,()))) fun y70 =>
Option.bind (zc0 r_0.1 r_0.2.1 r_0.2.2.1 y70) fun y71 =>
cond ((decide (x69>y71))) (some (.inr (((false,s54.2.1,s54.2.2))))) (cond ((s54.2.1==0)) (some (.inr (((true,s54.2.1,s54.2.2))))) (cond ((s54.1==36000)) (some (.inr (((false,s54.2.1,s54.2.2))))) (Option.bind (zP r_0.2.2.1 ((s54.2.1,s54.2.2,()))) fun y78 =>
Option.bind (zaX r_0 y78) fun y79 =>
Option.bind (zaE r_0.2.2.1 ((s54.2.1,s54.2.2,())) ((-4)) y79 r_0.2.2.2.1) fun y80 =>
cond ((!y80.2.2)) (some (.inr (((false,y80.1.1,y80.1.2.1))))) (some (.inl (((w64 (s54.1+1)),y80.1.1,y80.1.2.1))))))))) big ((0,x_1.1,x_1.2.1))) fun t82 =>
some t82.1
def zb2 (r_0:zac) (x_1:zf):Option (Int×Bool) :=
Option.bind (iter (σ:=(Int)) (τ:=Unit⊕(Int×Bool)) (fun s18 =>
cond ((decide (s18≥(-4)))) (Option.bind (zP r_0.2.2.1 x_1) fun y26 =>
Option.bind (zaX r_0 y26) fun y27 =>
Option.bind (zaE r_0.2.2.1 x_1 s18 y27 r_0.2.2.2.1) fun y28 =>
cond (y28.2.2) (Option.bind (zdt r_0 y28.1) fun y34 =>
cond (y34) (some (.inr ((.inr ((s18,true)))))) (some (.inl ((w64 (s18-1)))))) (some (.inl ((w64 (s18-1)))))) (some (.inr ((.inl (())))))) big 4) fun t37 =>
alt (fun b39=>some ((0,false))) (fun b40=>some ((b40.1,b40.2))) t37
def zbr (t_0:Train) (x_1:zf) (demand_2:Int) (slope_3:Int) (state_4:Int):Option (Int×Int) :=
Option.bind (zcV .i64 x_1.1 t_0.1) fun x3 =>
Option.bind (zcx t_0 x3 demand_2 slope_3 state_4) fun y4 =>
Option.bind (zaE t_0 x_1 demand_2 slope_3 state_4) fun y5 =>
Option.bind (zcV .i64 ((w64 ((w64 ((w64 (y4.1*y5.1.1))+(w64 (1000*t_0.1))))-1))) ((w64 (1000*t_0.1)))) fun x10 =>
Option.bind (zcV .i64 ((w64 ((w64 (y4.2.1*y5.1.1))*t_0.2.2.2.2.2.2.2.2.1))) ((w64 (100000*t_0.1)))) fun x11 =>
some ((x10,x11))
def zdk (a_0:zam) (b_1:zam):Option (zam) :=
some ((((w64 (a_0.1+b_1.1)),(w64 (a_0.2.1+b_1.2.1)),(w64 (a_0.2.2.1+b_1.2.2.1)),(w64 (a_0.2.2.2.1+b_1.2.2.2.1)),(w64 (a_0.2.2.2.2.1+b_1.2.2.2.2.1)),(w64 (a_0.2.2.2.2.2.1+b_1.2.2.2.2.2.1)),()):zam))
def zdE (p_0:Plan) (way_1:(List zR)) (t_2:Train) (state_3:Int) (stops_4:(List Int)):Option ((List Leg)×Bool) :=
Option.bind (idx stops_4 0) fun x3 =>
Option.bind (iter (σ:=((List Leg)×Int×Int×Int)) (τ:=((List Leg)×Int×Int)⊕((List Leg)×Bool)) (fun s281 =>
cond ((decide (s281.2.1<(zz stops_4)))) (Option.bind (idx stops_4 s281.2.1) fun x286 =>
Option.bind (iter (σ:=(Int×Int×Int×Int×Int×Int×Int×Int×Int×Int×Int×Int)) (τ:=(Train×zf×Int×(List Int)×Int×Int×Int×Int×Bool×Int×Int×Int×Int×Int×Int×Int×Int×Int×Int×Int)⊕((List Leg)×Bool×Int×Int×Int×Int×Int×Int×Int×Int×Int×Int×Int)) (fun s371 =>
cond ((decide (s371.2.2.2.2.2.2.2.2.2.2.1>0))) (cond ((s371.1==36000)) (some (.inr ((.inr (([],false,s371.2.1,s371.2.2.1,s371.2.2.2.1,s371.2.2.2.2.1,s371.2.2.2.2.2.1,s371.2.2.2.2.2.2.1,s371.2.2.2.2.2.2.2.1,s371.2.2.2.2.2.2.2.2.1,s371.2.2.2.2.2.2.2.2.2.1,s371.2.2.2.2.2.2.2.2.2.2.1,s371.2.2.2.2.2.2.2.2.2.2.2)))))) (cond ((decide (s371.2.2.2.2.2.2.2.2.2.2.2>10000000000000000))) (some (.inr ((.inr (([],false,s371.2.1,s371.2.2.1,s371.2.2.2.1,s371.2.2.2.2.1,s371.2.2.2.2.2.1,s371.2.2.2.2.2.2.1,s371.2.2.2.2.2.2.2.1,s371.2.2.2.2.2.2.2.2.1,s371.2.2.2.2.2.2.2.2.2.1,s371.2.2.2.2.2.2.2.2.2.2.1,s371.2.2.2.2.2.2.2.2.2.2.2)))))) (Option.bind (zb2 (((p_0,way_1,t_2,state_3,x286,()):zac)) ((s371.2.2.2.2.2.2.2.2.2.2.1,s371.2.2.2.2.2.2.2.2.2.2.2,()))) fun y385 =>
cond ((!y385.2)) (some (.inr ((.inr (([],false,s371.2.1,s371.2.2.1,s371.2.2.2.1,s371.2.2.2.2.1,s371.2.2.2.2.2.1,s371.2.2.2.2.2.2.1,s371.2.2.2.2.2.2.2.1,s371.2.2.2.2.2.2.2.2.1,s371.2.2.2.2.2.2.2.2.2.1,s371.2.2.2.2.2.2.2.2.2.2.1,s371.2.2.2.2.2.2.2.2.2.2.2)))))) (Option.bind (zP t_2 ((s371.2.2.2.2.2.2.2.2.2.2.1,s371.2.2.2.2.2.2.2.2.2.2.2,()))) fun y389 =>
Option.bind (zaX (((p_0,way_1,t_2,state_3,x286,()):zac)) y389) fun y390 =>
Option.bind (zbr t_2 ((s371.2.2.2.2.2.2.2.2.2.2.1,s371.2.2.2.2.2.2.2.2.2.2.2,())) y385.1 y390 state_3) fun y391 =>
Option.bind (zaE t_2 ((s371.2.2.2.2.2.2.2.2.2.2.1,s371.2.2.2.2.2.2.2.2.2.2.2,())) y385.1 y390 state_3) fun y392 =>
Option.bind (zdk ((s371.2.2.1,s371.2.2.2.1,s371.2.2.2.2.1,s371.2.2.2.2.2.1,s371.2.2.2.2.2.2.1,s371.2.2.2.2.2.2.2.1,())) y392.2.1) fun y395 =>
some (.inl (((w64 (s371.1+1)),(w64 (s371.2.1+100)),y395.1,y395.2.1,y395.2.2.1,y395.2.2.2.1,y395.2.2.2.2.1,y395.2.2.2.2.2.1,(max s371.2.2.2.2.2.2.2.2.1 y391.1),(max s371.2.2.2.2.2.2.2.2.2.1 y391.2),y392.1.1,y392.1.2.1))))))) (Option.bind (zP t_2 ((s371.2.2.2.2.2.2.2.2.2.2.1,s371.2.2.2.2.2.2.2.2.2.2.2,()))) fun y396 =>
Option.bind (idx stops_4 s281.2.1) fun x397 =>
cond ((decide (y396<(w64 (x397-1000))))) (cond ((s371.1==36000)) (some (.inr ((.inr (([],false,s371.2.1,s371.2.2.1,s371.2.2.2.1,s371.2.2.2.2.1,s371.2.2.2.2.2.1,s371.2.2.2.2.2.2.1,s371.2.2.2.2.2.2.2.1,s371.2.2.2.2.2.2.2.2.1,s371.2.2.2.2.2.2.2.2.2.1,s371.2.2.2.2.2.2.2.2.2.2.1,s371.2.2.2.2.2.2.2.2.2.2.2)))))) (cond ((decide (s371.2.2.2.2.2.2.2.2.2.2.2>10000000000000000))) (some (.inr ((.inr (([],false,s371.2.1,s371.2.2.1,s371.2.2.2.1,s371.2.2.2.2.1,s371.2.2.2.2.2.1,s371.2.2.2.2.2.2.1,s371.2.2.2.2.2.2.2.1,s371.2.2.2.2.2.2.2.2.1,s371.2.2.2.2.2.2.2.2.2.1,s371.2.2.2.2.2.2.2.2.2.2.1,s371.2.2.2.2.2.2.2.2.2.2.2)))))) (Option.bind (zb2 (((p_0,way_1,t_2,state_3,x286,()):zac)) ((s371.2.2.2.2.2.2.2.2.2.2.1,s371.2.2.2.2.2.2.2.2.2.2.2,()))) fun y403 =>
cond ((!y403.2)) (some (.inr ((.inr (([],false,s371.2.1,s371.2.2.1,s371.2.2.2.1,s371.2.2.2.2.1,s371.2.2.2.2.2.1,s371.2.2.2.2.2.2.1,s371.2.2.2.2.2.2.2.1,s371.2.2.2.2.2.2.2.2.1,s371.2.2.2.2.2.2.2.2.2.1,s371.2.2.2.2.2.2.2.2.2.2.1,s371.2.2.2.2.2.2.2.2.2.2.2)))))) (Option.bind (zP t_2 ((s371.2.2.2.2.2.2.2.2.2.2.1,s371.2.2.2.2.2.2.2.2.2.2.2,()))) fun y407 =>
Option.bind (zaX (((p_0,way_1,t_2,state_3,x286,()):zac)) y407) fun y408 =>
Option.bind (zbr t_2 ((s371.2.2.2.2.2.2.2.2.2.2.1,s371.2.2.2.2.2.2.2.2.2.2.2,())) y403.1 y408 state_3) fun y409 =>
Option.bind (zaE t_2 ((s371.2.2.2.2.2.2.2.2.2.2.1,s371.2.2.2.2.2.2.2.2.2.2.2,())) y403.1 y408 state_3) fun y410 =>
Option.bind (zdk ((s371.2.2.1,s371.2.2.2.1,s371.2.2.2.2.1,s371.2.2.2.2.2.1,s371.2.2.2.2.2.2.1,s371.2.2.2.2.2.2.2.1,())) y410.2.1) fun y413 =>
some (.inl (((w64 (s371.1+1)),(w64 (s371.2.1+100)),y413.1,y413.2.1,y413.2.2.1,y413.2.2.2.1,y413.2.2.2.2.1,y413.2.2.2.2.2.1,(max s371.2.2.2.2.2.2.2.2.1 y409.1),(max s371.2.2.2.2.2.2.2.2.2.1 y409.2),y410.1.1,y410.1.2.1))))))) (some (.inr ((.inl ((t_2,(s371.2.2.2.2.2.2.2.2.2.2.1,s371.2.2.2.2.2.2.2.2.2.2.2,()),y396,stops_4,s281.2.1,x397,x397,(w64 (x397-1000)),(decide (y396<(w64 (x397-1000)))),s371.2.1,s371.2.2.1,s371.2.2.2.1,s371.2.2.2.2.1,s371.2.2.2.2.2.1,s371.2.2.2.2.2.2.1,s371.2.2.2.2.2.2.2.1,s371.2.2.2.2.2.2.2.2.1,s371.2.2.2.2.2.2.2.2.2.1,s371.2.2.2.2.2.2.2.2.2.2.1,s371.2.2.2.2.2.2.2.2.2.2.2)))))))) big ((0,0,0,0,0,0,0,0,0,0,s281.2.2.1,s281.2.2.2))) fun t414 =>
alt (fun b416=>Option.bind (zP t_2 ((b416.2.2.2.2.2.2.2.2.2.2.2.2.2.2.2.2.2.2.1,b416.2.2.2.2.2.2.2.2.2.2.2.2.2.2.2.2.2.2.2,()))) fun y418 =>
Option.bind (zdJ 80 s281.1 ([(b416.2.2.2.2.2.2.2.2.2.1,y418,(b416.2.2.2.2.2.2.2.2.2.2.1,b416.2.2.2.2.2.2.2.2.2.2.2.1,b416.2.2.2.2.2.2.2.2.2.2.2.2.1,b416.2.2.2.2.2.2.2.2.2.2.2.2.2.1,b416.2.2.2.2.2.2.2.2.2.2.2.2.2.2.1,b416.2.2.2.2.2.2.2.2.2.2.2.2.2.2.2.1,()),b416.2.2.2.2.2.2.2.2.2.2.2.2.2.2.2.2.1,b416.2.2.2.2.2.2.2.2.2.2.2.2.2.2.2.2.2.1,())])) fun x419 =>
some (.inl ((x419,(w64 (s281.2.1+1)),b416.2.2.2.2.2.2.2.2.2.2.2.2.2.2.2.2.2.2.1,b416.2.2.2.2.2.2.2.2.2.2.2.2.2.2.2.2.2.2.2)))) (fun b417=>some (.inr ((.inr ((b417.1,b417.2.1)))))) t414) (some (.inr ((.inl ((s281.1,s281.2.2.1,s281.2.2.2))))))) big (([],1,0,(w64 ((w64 (10*t_2.1))*x3))))) fun t421 =>
alt (fun b423=>some ((b423.1,(decide (b423.2.2≤10000000000000000))))) (fun b424=>some ((b424.1,b424.2))) t421
def zeH (p_0:Plan) (way_1:(List zR)) (t_2:Train) (state_3:Int) (stops_4:(List Int)):Option ((List Int)×Bool) :=
Option.bind (zdD p_0 way_1 t_2 state_3 stops_4) fun y1 =>
cond ((!y1)) (some (([],false))) (Option.bind (zdE p_0 way_1 t_2 state_3 stops_4) fun y3 =>
Option.bind (iter (σ:=((List Int)×Int)) (τ:=((List Int))) (fun s9 =>
cond ((decide (s9.2<(zz y3.1)))) (Option.bind (idx y3.1 s9.2) fun x12 =>
Option.bind (zdJ 8 s9.1 ([x12.1])) fun x13 =>
some (.inl ((x13,(w64 (s9.2+1)))))) (some (.inr s9.1))) big (([],0))) fun t15 =>
some ((t15,y3.2)))
def zcp (p_0:Plan) (l_1:Line) (home_2:Bool):Option ((List Int)×Bool) :=
Option.bind (zda l_1 home_2) fun y1 =>
Option.bind (Option.bind (zd0 p_0 y1.1) fun y12 =>
cond ((!y12)) (some true) (Option.bind (zcw ((zz y1.2.1)) 2 60) fun y14 =>
cond ((!y14)) (some true) (cond (((zz y1.2.2.1)!=(zz y1.2.1))) (some true) (Option.bind (idx y1.2.2.1 0) fun x17 =>
cond ((x17 !=0)) (some true) (Option.bind (idx y1.2.2.1 ((w64 ((zz y1.2.2.1)-1)))) fun x19 =>
some ((x19 !=0))))))) fun c11 =>
cond (c11) (some (([],false))) (Option.bind (iter (σ:=(Int)) (τ:=Unit⊕((List Int)×Bool)) (fun s56 =>
cond ((decide (s56<(zz y1.2.1)))) (Option.bind (idx y1.2.1 s56) fun x79 =>
Option.bind (zbM p_0 y1.1) fun y80 =>
Option.bind (zcw x79 1 y80) fun y81 =>
cond ((!y81)) (some (.inr ((.inr (([],false)))))) (Option.bind (idx y1.2.2.1 s56) fun x84 =>
Option.bind (zcw x84 0 600) fun y85 =>
cond ((!y85)) (some (.inr ((.inr (([],false)))))) (cond ((decide (s56>0))) (Option.bind (idx y1.2.1 s56) fun x89 =>
Option.bind (idx y1.2.1 ((w64 (s56-1)))) fun x90 =>
cond ((decide (x89≤x90))) (some (.inr ((.inr (([],false)))))) (some (.inl ((w64 (s56+1)))))) (some (.inl ((w64 (s56+1)))))))) (some (.inr ((.inl (())))))) big 0) fun t93 =>
alt (fun b95=>Option.bind (zeH p_0 y1.1 l_1.2.2.1 l_1.2.2.2.1 y1.2.1) fun y97 =>
cond ((!y97.2)) (some (([],false))) (Option.bind (iter (σ:=((List Int)×Int)) (τ:=((List Int))) (fun s105 =>
cond ((decide (s105.2<(zz y97.1)))) (Option.bind (idx y97.1 s105.2) fun x108 =>
Option.bind (zcV .i64 ((w64 (x108+999))) 1000) fun x109 =>
Option.bind (zdJ 8 s105.1 ([(max 1 x109)])) fun x110 =>
some (.inl ((x110,(w64 (s105.2+1)))))) (some (.inr s105.1))) big (([],0))) fun t112 =>
some ((t112,true)))) (fun b96=>some ((b96.1,b96.2))) t93)
def zed (p_0:Plan) (l_1:Line) (home_2:Bool):Option ((List Int)) :=
Option.bind (zcp p_0 l_1 home_2) fun y1 =>
some y1.1
def zaN (p_0:Plan) (l_1:Line) (home_2:Bool):Option ((List Int)) :=
Option.bind (zda l_1 home_2) fun y1 =>
Option.bind (zed p_0 l_1 home_2) fun y3 =>
Option.bind (iter (σ:=((List Int)×Int)) (τ:=((List Int))) (fun s17 =>
cond ((decide (s17.2<(zz y3)))) (Option.bind (idx s17.1 s17.2) fun x25 =>
Option.bind (idx y3 s17.2) fun x26 =>
Option.bind (idx y1.2.2.1 ((w64 (s17.2+1)))) fun x27 =>
Option.bind (zdJ 8 s17.1 ([(w64 ((w64 (x25+x26))+x27))])) fun x28 =>
some (.inl ((x28,(w64 (s17.2+1)))))) (some (.inr s17.1))) big (([0],0))) fun t30 =>
some t30
def zcN (p_0:Plan) (l_1:Line):Option (Bool) :=
Option.bind (zcw l_1.2.2.2.2.1 0 3600) fun y1 =>
cond ((!y1)) (some false) (Option.bind (iter (σ:=(Int)) (τ:=Unit⊕(Bool)) (fun s11 =>
cond ((decide (s11<2))) (Option.bind (zcp p_0 l_1 ((s11==1))) fun y14 =>
cond ((!y14.2)) (some (.inr ((.inr false)))) (Option.bind (zaN p_0 l_1 ((s11==1))) fun y17 =>
Option.bind (idx y17 ((w64 ((zz y17)-1)))) fun x19 =>
cond ((decide (x19>50000))) (some (.inr ((.inr false)))) (some (.inl ((w64 (s11+1))))))) (some (.inr ((.inl (())))))) big 0) fun t21 =>
alt (fun b23=>some true) (fun b24=>some b24) t21)
def zee (a_0:(List Int)) (b_1:(List Int)):Option (Bool) :=
cond (((zz a_0)!=(zz b_1))) (some false) (Option.bind (iter (σ:=(Int)) (τ:=Unit⊕(Bool)) (fun s8 =>
cond ((decide (s8<(zz a_0)))) (Option.bind (idx a_0 s8) fun x13 =>
Option.bind (idx b_1 s8) fun x14 =>
cond ((x13 !=x14)) (some (.inr ((.inr false)))) (some (.inl ((w64 (s8+1)))))) (some (.inr ((.inl (())))))) big 0) fun t16 =>
alt (fun b18=>some true) (fun b19=>some b19) t16)
def zc1 (p_0:Plan) (l_1:Line) (home_2:Bool):Option (Int) :=
Option.bind (zaN p_0 l_1 home_2) fun y1 =>
Option.bind (idx y1 ((w64 ((zz y1)-1)))) fun x3 =>
some x3
def zdF (p_0:Plan) (l_1:Line):Option (Int) :=
Option.bind (zc1 p_0 l_1 false) fun y3 =>
Option.bind (zc1 p_0 l_1 true) fun y4 =>
some ((w64 ((w64 (y3+y4))+(w64 (2*l_1.2.2.2.2.1)))))
def zbk (p_0:Plan) (l_1:Line) (home_2:Bool) (headway_3:Int):Option (Bool) :=
Option.bind (Option.bind (zcW p_0) fun y5 =>
cond ((!y5)) (some true) (Option.bind (zbX l_1) fun y7 =>
some ((!y7)))) fun c4 =>
cond (c4) (Option.bind (zaF) fun y9 =>
some y9) (Option.bind (zaA p_0 l_1 home_2) fun y10 =>
Option.bind (zbR p_0 l_1) fun y11 =>
Option.bind (za2 p_0 l_1 headway_3) fun y12 =>
Option.bind (Option.bind (zbW p_0) fun y17 =>
cond ((!y17)) (some true) (Option.bind (zcN p_0 l_1) fun y19 =>
some ((!y19)))) fun c16 =>
cond (c16) (Option.bind (cond ((y10.2==2)) (cond ((y11.2==2)) (cond ((y12.2==2)) (cond (((zz y10.1)==0)) (cond ((y11.1==0)) (cond ((y12.1==0)) (Option.bind (zaF) fun y35 =>
some y35) (some false)) (some false)) (some false)) (some false)) (some false)) (some false)) fun c28 =>
some c28) (cond ((y10.2 !=0)) (some false) (cond ((y11.2 !=0)) (some false) (Option.bind (zaN p_0 l_1 home_2) fun y47 =>
Option.bind (zee y10.1 y47) fun y49 =>
cond ((!y49)) (some false) (Option.bind (zdF p_0 l_1) fun y52 =>
cond ((y11.1 !=y52)) (some false) (Option.bind (cond ((decide (headway_3<30))) (some true) (some ((decide (headway_3>7200))))) fun c55 =>
cond (c55) (Option.bind (cond ((y12.2==2)) (cond ((y12.1==0)) (Option.bind (zaF) fun y64 =>
some y64) (some false)) (some false)) fun c61 =>
some c61) (Option.bind (cond ((y12.2==0)) (cond ((decide ((w64 (y12.1*headway_3))≥y11.1))) (cond ((decide ((w64 ((w64 (y12.1-1))*headway_3))<y11.1))) (Option.bind (zaF) fun y73 =>
some y73) (some false)) (some false)) (some false)) fun c69 =>
some c69)))))))
def zeI (p_0:Plan) (s_1:Service):Option (Bool) :=
Option.bind (iter (σ:=(Int)) (τ:=Unit⊕(Bool)) (fun s5 =>
cond ((decide (s5<(zz s_1.1)))) (Option.bind (idx s_1.1 s5) fun x8 =>
Option.bind (zbX x8) fun y9 =>
cond ((!y9)) (some (.inr ((.inr false)))) (some (.inl ((w64 (s5+1)))))) (some (.inr ((.inl (())))))) big 0) fun t11 =>
alt (fun b13=>Option.bind (Option.bind (zcW p_0) fun y20 =>
cond (y20) (cond ((decide ((zz s_1.1)≤3))) (cond ((decide ((zz s_1.2.1)≤4))) (some ((decide ((zz s_1.2.2.1)≤4)))) (some false)) (some false)) (some false)) fun c19 =>
some c19) (fun b14=>some b14) t11
def zcO (p_0:Plan) (s_1:Service):Option (Bool) :=
Option.bind (Option.bind (zbW p_0) fun y7 =>
cond ((!y7)) (some true) (Option.bind (zcw ((zz s_1.1)) 1 20) fun y9 =>
cond ((!y9)) (some true) (cond (((zz s_1.2.1)!=(zz s_1.1))) (some true) (some (((zz s_1.2.2.1)!=(zz s_1.1))))))) fun c6 =>
cond (c6) (some false) (Option.bind (iter (σ:=(Int)) (τ:=Unit⊕(Bool)) (fun s44 =>
cond ((decide (s44<(zz s_1.1)))) (Option.bind (idx s_1.1 s44) fun x65 =>
Option.bind (zcN p_0 x65) fun y66 =>
cond ((!y66)) (some (.inr ((.inr false)))) (Option.bind (idx s_1.2.1 s44) fun x69 =>
Option.bind (zcw x69 30 7200) fun y70 =>
cond ((!y70)) (some (.inr ((.inr false)))) (Option.bind (idx s_1.2.2.1 s44) fun x73 =>
Option.bind (idx s_1.2.1 s44) fun x74 =>
Option.bind (zcw x73 0 ((w64 (x74-1)))) fun y75 =>
cond ((!y75)) (some (.inr ((.inr false)))) (some (.inl ((w64 (s44+1)))))))) (some (.inr ((.inl (())))))) big 0) fun t77 =>
alt (fun b79=>some true) (fun b80=>some b80) t77)
def zcP (p_0:Plan) (l_1:(List Line)):Option ((List zL)×Bool) :=
Option.bind (zae ((zz l_1)) 1 20) fun y1 =>
cond ((!y1)) (some (([],false))) (Option.bind (iter (σ:=((List zL)×Int)) (τ:=((List zL))⊕((List zL)×Bool)) (fun s11 =>
cond ((decide (s11.2<(zz l_1)))) (Option.bind (idx l_1 s11.2) fun x14 =>
Option.bind (zbq p_0 x14) fun y16 =>
cond ((!y16.2)) (some (.inr ((.inr (([],false)))))) (Option.bind (y16.1) fun p18 =>
Option.bind (zdJ 8 s11.1 ([p18])) fun x19 =>
some (.inl ((x19,(w64 (s11.2+1))))))) (some (.inr ((.inl s11.1))))) big (([],0))) fun t21 =>
alt (fun b23=>some ((b23,true))) (fun b24=>some ((b24.1,b24.2))) t21)
def zcg (p_0:Plan) (s_1:Service):Option ((List zL)×Bool) :=
Option.bind (cond (((zz s_1.2.1)!=(zz s_1.1))) (some true) (some (((zz s_1.2.2.1)!=(zz s_1.1))))) fun c2 =>
cond (c2) (some (([],false))) (Option.bind (iter (σ:=(Int)) (τ:=Unit⊕((List zL)×Bool)) (fun s17 =>
cond ((decide (s17<(zz s_1.2.1)))) (Option.bind (idx s_1.2.1 s17) fun x20 =>
Option.bind (zae x20 30 7200) fun y25 =>
cond ((!y25)) (some (.inr ((.inr (([],false)))))) (Option.bind (idx s_1.2.2.1 s17) fun x28 =>
Option.bind (zae x28 0 ((w64 (x20-1)))) fun y29 =>
cond ((!y29)) (some (.inr ((.inr (([],false)))))) (some (.inl ((w64 (s17+1))))))) (some (.inr ((.inl (())))))) big 0) fun t31 =>
alt (fun b33=>Option.bind (zcP p_0 s_1.1) fun y35 =>
some ((y35.1,y35.2))) (fun b34=>some ((b34.1,b34.2))) t31)
def zch (p_0:Plan) (s_1:Service):Option (Int) :=
Option.bind (zcg p_0 s_1) fun y1 =>
cond ((!y1.2)) (some 2) (some 0)
def zbw (p_0:Plan) (s_1:Service):Option (Bool) :=
Option.bind (zeI p_0 s_1) fun y1 =>
cond ((!y1)) (Option.bind (zaF) fun y3 =>
some y3) (Option.bind (zcO p_0 s_1) fun y4 =>
cond (y4) (Option.bind (Option.bind (zch p_0 s_1) fun y10 =>
cond ((y10==0)) (Option.bind (zaF) fun y12 =>
some y12) (some false)) fun c9 =>
some c9) (Option.bind (Option.bind (zch p_0 s_1) fun y17 =>
cond ((y17==2)) (Option.bind (zaF) fun y19 =>
some y19) (some false)) fun c16 =>
some c16))
end Go.Ai.Sx
