/- The closures are the program's functions. -/
import Derived.Test.YtlldjadlhgonbaaGreatTabN0
import Derived.Test.YtlldjadlhgonbaaGreatDenE
import Derived.Test.YtlldjadlhgonbaaGreatProg
import Derived.KernelRfl
set_option linter.unusedVariables false
set_option linter.unusedSimpArgs false
set_option autoImplicit false
set_option maxRecDepth 100000
namespace Den
open Go
namespace KK
open Go.Proofs
def hpL : List Nat := [37, 42, 63, 100, 114, 122, 133, 143, 157]
def hp (f : Nat) : Bool := hpL.contains f
theorem t3 : (compF Tryz.prog 5 false Tryz.f3).map kFn = some k3 := by kernel_rfl
theorem t4 : (compF Tryz.prog 5 false Tryz.f4).map kFn = some k4 := by kernel_rfl
theorem t5 : (compF Tryz.prog 5 false Tryz.f5).map kFn = some k5 := by kernel_rfl
theorem t6 : (compF Tryz.prog 5 false Tryz.f6).map kFn = some k6 := by kernel_rfl
theorem t7 : (compF Tryz.prog 5 false Tryz.f7).map kFn = some k7 := by kernel_rfl
theorem t8 : (compF Tryz.prog 5 false Tryz.f8).map kFn = some k8 := by kernel_rfl
theorem t13 : (compF Tryz.prog 5 false Tryz.f13).map kFn = some k13 := by kernel_rfl
theorem t14 : (compF Tryz.prog 5 false Tryz.f14).map kFn = some k14 := by kernel_rfl
theorem t15 : (compF Tryz.prog 5 false Tryz.f15).map kFn = some k15 := by kernel_rfl
theorem t16 : (compF Tryz.prog 5 false Tryz.f16).map kFn = some k16 := by kernel_rfl
theorem t17 : (compF Tryz.prog 5 false Tryz.f17).map kFn = some k17 := by kernel_rfl
theorem t18 : (compF Tryz.prog 5 false Tryz.f18).map kFn = some k18 := by kernel_rfl
theorem t19 : (compF Tryz.prog 5 false Tryz.f19).map kFn = some k19 := by kernel_rfl
theorem t20 : (compF Tryz.prog 5 false Tryz.f20).map kFn = some k20 := by kernel_rfl
theorem t21 : (compF Tryz.prog 5 false Tryz.f21).map kFn = some k21 := by kernel_rfl
theorem t22 : (compF Tryz.prog 5 false Tryz.f22).map kFn = some k22 := by kernel_rfl
theorem t23 : (compF Tryz.prog 5 false Tryz.f23).map kFn = some k23 := by kernel_rfl
theorem t24 : (compF Tryz.prog 5 false Tryz.f24).map kFn = some k24 := by kernel_rfl
theorem t25 : (compF Tryz.prog 5 false Tryz.f25).map kFn = some k25 := by kernel_rfl
theorem t26 : (compF Tryz.prog 5 false Tryz.f26).map kFn = some k26 := by kernel_rfl
theorem t27 : (compF Tryz.prog 5 false Tryz.f27).map kFn = some k27 := by kernel_rfl
theorem t28 : (compF Tryz.prog 5 false Tryz.f28).map kFn = some k28 := by kernel_rfl
theorem t29 : (compF Tryz.prog 5 false Tryz.f29).map kFn = some k29 := by kernel_rfl
theorem t33 : (compF Tryz.prog 5 false Tryz.f33).map kFn = some k33 := by kernel_rfl
theorem t34 : (compF Tryz.prog 5 false Tryz.f34).map kFn = some k34 := by kernel_rfl
theorem t36 : (compF Tryz.prog 5 false Tryz.f36).map kFn = some k36 := by kernel_rfl
theorem t37 : (compF Tryz.prog 5 true Tryz.f37).map kFn = some k37 := by kernel_rfl
theorem t38 : (compF Tryz.prog 5 false Tryz.f38).map kFn = some k38 := by kernel_rfl
theorem t39 : (compF Tryz.prog 5 false Tryz.f39).map kFn = some k39 := by kernel_rfl
theorem t40 : (compF Tryz.prog 5 false Tryz.f40).map kFn = some k40 := by kernel_rfl
theorem t41 : (compF Tryz.prog 5 false Tryz.f41).map kFn = some k41 := by kernel_rfl
theorem t42 : (compF Tryz.prog 5 true Tryz.f42).map kFn = some k42 := by kernel_rfl
theorem t43 : (compF Tryz.prog 5 false Tryz.f43).map kFn = some k43 := by kernel_rfl
theorem t44 : (compF Tryz.prog 5 false Tryz.f44).map kFn = some k44 := by kernel_rfl
theorem t45 : (compF Tryz.prog 5 false Tryz.f45).map kFn = some k45 := by kernel_rfl
theorem t46 : (compF Tryz.prog 5 false Tryz.f46).map kFn = some k46 := by kernel_rfl
theorem t47 : (compF Tryz.prog 5 false Tryz.f47).map kFn = some k47 := by kernel_rfl
theorem t48 : (compF Tryz.prog 5 false Tryz.f48).map kFn = some k48 := by kernel_rfl
theorem t49 : (compF Tryz.prog 5 false Tryz.f49).map kFn = some k49 := by kernel_rfl
theorem t50 : (compF Tryz.prog 5 false Tryz.f50).map kFn = some k50 := by kernel_rfl
theorem t51 : (compF Tryz.prog 5 false Tryz.f51).map kFn = some k51 := by kernel_rfl
theorem t52 : (compF Tryz.prog 5 false Tryz.f52).map kFn = some k52 := by kernel_rfl
theorem t53 : (compF Tryz.prog 5 false Tryz.f53).map kFn = some k53 := by kernel_rfl
theorem t54 : (compF Tryz.prog 5 false Tryz.f54).map kFn = some k54 := by kernel_rfl
theorem t55 : (compF Tryz.prog 5 false Tryz.f55).map kFn = some k55 := by kernel_rfl
theorem t56 : (compF Tryz.prog 5 false Tryz.f56).map kFn = some k56 := by kernel_rfl
theorem t57 : (compF Tryz.prog 5 false Tryz.f57).map kFn = some k57 := by kernel_rfl
theorem t59 : (compF Tryz.prog 5 false Tryz.f59).map kFn = some k59 := by kernel_rfl
theorem t60 : (compF Tryz.prog 5 false Tryz.f60).map kFn = some k60 := by kernel_rfl
theorem t61 : (compF Tryz.prog 5 false Tryz.f61).map kFn = some k61 := by kernel_rfl
theorem t62 : (compF Tryz.prog 5 false Tryz.f62).map kFn = some k62 := by kernel_rfl
theorem t63 : (compF Tryz.prog 5 true Tryz.f63).map kFn = some k63 := by kernel_rfl
theorem t64 : (compF Tryz.prog 5 false Tryz.f64).map kFn = some k64 := by kernel_rfl
theorem t65 : (compF Tryz.prog 5 false Tryz.f65).map kFn = some k65 := by kernel_rfl
theorem t66 : (compF Tryz.prog 5 false Tryz.f66).map kFn = some k66 := by kernel_rfl
theorem t67 : (compF Tryz.prog 5 false Tryz.f67).map kFn = some k67 := by kernel_rfl
theorem t68 : (compF Tryz.prog 5 false Tryz.f68).map kFn = some k68 := by kernel_rfl
theorem t69 : (compF Tryz.prog 5 false Tryz.f69).map kFn = some k69 := by kernel_rfl
theorem t70 : (compF Tryz.prog 5 false Tryz.f70).map kFn = some k70 := by kernel_rfl
theorem t71 : (compF Tryz.prog 5 false Tryz.f71).map kFn = some k71 := by kernel_rfl
theorem t72 : (compF Tryz.prog 5 false Tryz.f72).map kFn = some k72 := by kernel_rfl
theorem t73 : (compF Tryz.prog 5 false Tryz.f73).map kFn = some k73 := by kernel_rfl
theorem t74 : (compF Tryz.prog 5 false Tryz.f74).map kFn = some k74 := by kernel_rfl
theorem t75 : (compF Tryz.prog 5 false Tryz.f75).map kFn = some k75 := by kernel_rfl
theorem t76 : (compF Tryz.prog 5 false Tryz.f76).map kFn = some k76 := by kernel_rfl
theorem t77 : (compF Tryz.prog 5 false Tryz.f77).map kFn = some k77 := by kernel_rfl
theorem t78 : (compF Tryz.prog 5 false Tryz.f78).map kFn = some k78 := by kernel_rfl
theorem t79 : (compF Tryz.prog 5 false Tryz.f79).map kFn = some k79 := by kernel_rfl
theorem t80 : (compF Tryz.prog 5 false Tryz.f80).map kFn = some k80 := by kernel_rfl
theorem t81 : (compF Tryz.prog 5 false Tryz.f81).map kFn = some k81 := by kernel_rfl
theorem t82 : (compF Tryz.prog 5 false Tryz.f82).map kFn = some k82 := by kernel_rfl
theorem t83 : (compF Tryz.prog 5 false Tryz.f83).map kFn = some k83 := by kernel_rfl
theorem t84 : (compF Tryz.prog 5 false Tryz.f84).map kFn = some k84 := by kernel_rfl
theorem t85 : (compF Tryz.prog 5 false Tryz.f85).map kFn = some k85 := by kernel_rfl
theorem t86 : (compF Tryz.prog 5 false Tryz.f86).map kFn = some k86 := by kernel_rfl
theorem t87 : (compF Tryz.prog 5 false Tryz.f87).map kFn = some k87 := by kernel_rfl
theorem t88 : (compF Tryz.prog 5 false Tryz.f88).map kFn = some k88 := by kernel_rfl
theorem t89 : (compF Tryz.prog 5 false Tryz.f89).map kFn = some k89 := by kernel_rfl
theorem t90 : (compF Tryz.prog 5 false Tryz.f90).map kFn = some k90 := by kernel_rfl
theorem t91 : (compF Tryz.prog 5 false Tryz.f91).map kFn = some k91 := by kernel_rfl
theorem t92 : (compF Tryz.prog 5 false Tryz.f92).map kFn = some k92 := by kernel_rfl
theorem t93 : (compF Tryz.prog 5 false Tryz.f93).map kFn = some k93 := by kernel_rfl
theorem t94 : (compF Tryz.prog 5 false Tryz.f94).map kFn = some k94 := by kernel_rfl
theorem t95 : (compF Tryz.prog 5 false Tryz.f95).map kFn = some k95 := by kernel_rfl
theorem t96 : (compF Tryz.prog 5 false Tryz.f96).map kFn = some k96 := by kernel_rfl
theorem t97 : (compF Tryz.prog 5 false Tryz.f97).map kFn = some k97 := by kernel_rfl
theorem t98 : (compF Tryz.prog 5 false Tryz.f98).map kFn = some k98 := by kernel_rfl
theorem t99 : (compF Tryz.prog 5 false Tryz.f99).map kFn = some k99 := by kernel_rfl
theorem t100 : (compF Tryz.prog 5 true Tryz.f100).map kFn = some k100 := by kernel_rfl
theorem t101 : (compF Tryz.prog 5 false Tryz.f101).map kFn = some k101 := by kernel_rfl
theorem t102 : (compF Tryz.prog 5 false Tryz.f102).map kFn = some k102 := by kernel_rfl
theorem t104 : (compF Tryz.prog 5 false Tryz.f104).map kFn = some k104 := by kernel_rfl
theorem t105 : (compF Tryz.prog 5 false Tryz.f105).map kFn = some k105 := by kernel_rfl
theorem t106 : (compF Tryz.prog 5 false Tryz.f106).map kFn = some k106 := by kernel_rfl
theorem t107 : (compF Tryz.prog 5 false Tryz.f107).map kFn = some k107 := by kernel_rfl
theorem t108 : (compF Tryz.prog 5 false Tryz.f108).map kFn = some k108 := by kernel_rfl
theorem t109 : (compF Tryz.prog 5 false Tryz.f109).map kFn = some k109 := by kernel_rfl
theorem t110 : (compF Tryz.prog 5 false Tryz.f110).map kFn = some k110 := by kernel_rfl
theorem t111 : (compF Tryz.prog 5 false Tryz.f111).map kFn = some k111 := by kernel_rfl
theorem t112 : (compF Tryz.prog 5 false Tryz.f112).map kFn = some k112 := by kernel_rfl
theorem t113 : (compF Tryz.prog 5 false Tryz.f113).map kFn = some k113 := by kernel_rfl
theorem t114 : (compF Tryz.prog 5 true Tryz.f114).map kFn = some k114 := by kernel_rfl
theorem t115 : (compF Tryz.prog 5 false Tryz.f115).map kFn = some k115 := by kernel_rfl
theorem t116 : (compF Tryz.prog 5 false Tryz.f116).map kFn = some k116 := by kernel_rfl
theorem t117 : (compF Tryz.prog 5 false Tryz.f117).map kFn = some k117 := by kernel_rfl
theorem t118 : (compF Tryz.prog 5 false Tryz.f118).map kFn = some k118 := by kernel_rfl
theorem t119 : (compF Tryz.prog 5 false Tryz.f119).map kFn = some k119 := by kernel_rfl
theorem t120 : (compF Tryz.prog 5 false Tryz.f120).map kFn = some k120 := by kernel_rfl
theorem t121 : (compF Tryz.prog 5 false Tryz.f121).map kFn = some k121 := by kernel_rfl
theorem t122 : (compF Tryz.prog 5 true Tryz.f122).map kFn = some k122 := by kernel_rfl
theorem t123 : (compF Tryz.prog 5 false Tryz.f123).map kFn = some k123 := by kernel_rfl
theorem t124 : (compF Tryz.prog 5 false Tryz.f124).map kFn = some k124 := by kernel_rfl
theorem t125 : (compF Tryz.prog 5 false Tryz.f125).map kFn = some k125 := by kernel_rfl
theorem t126 : (compF Tryz.prog 5 false Tryz.f126).map kFn = some k126 := by kernel_rfl
theorem t127 : (compF Tryz.prog 5 false Tryz.f127).map kFn = some k127 := by kernel_rfl
theorem t128 : (compF Tryz.prog 5 false Tryz.f128).map kFn = some k128 := by kernel_rfl
theorem t129 : (compF Tryz.prog 5 false Tryz.f129).map kFn = some k129 := by kernel_rfl
theorem t130 : (compF Tryz.prog 5 false Tryz.f130).map kFn = some k130 := by kernel_rfl
theorem t131 : (compF Tryz.prog 5 false Tryz.f131).map kFn = some k131 := by kernel_rfl
theorem t132 : (compF Tryz.prog 5 false Tryz.f132).map kFn = some k132 := by kernel_rfl
theorem t133 : (compF Tryz.prog 5 true Tryz.f133).map kFn = some k133 := by kernel_rfl
theorem t134 : (compF Tryz.prog 5 false Tryz.f134).map kFn = some k134 := by kernel_rfl
theorem t135 : (compF Tryz.prog 5 false Tryz.f135).map kFn = some k135 := by kernel_rfl
theorem t136 : (compF Tryz.prog 5 false Tryz.f136).map kFn = some k136 := by kernel_rfl
theorem t137 : (compF Tryz.prog 5 false Tryz.f137).map kFn = some k137 := by kernel_rfl
theorem t138 : (compF Tryz.prog 5 false Tryz.f138).map kFn = some k138 := by kernel_rfl
theorem t139 : (compF Tryz.prog 5 false Tryz.f139).map kFn = some k139 := by kernel_rfl
theorem t140 : (compF Tryz.prog 5 false Tryz.f140).map kFn = some k140 := by kernel_rfl
theorem t141 : (compF Tryz.prog 5 false Tryz.f141).map kFn = some k141 := by kernel_rfl
theorem t142 : (compF Tryz.prog 5 false Tryz.f142).map kFn = some k142 := by kernel_rfl
theorem t143 : (compF Tryz.prog 5 true Tryz.f143).map kFn = some k143 := by kernel_rfl
theorem t144 : (compF Tryz.prog 5 false Tryz.f144).map kFn = some k144 := by kernel_rfl
theorem t145 : (compF Tryz.prog 5 false Tryz.f145).map kFn = some k145 := by kernel_rfl
theorem t146 : (compF Tryz.prog 5 false Tryz.f146).map kFn = some k146 := by kernel_rfl
theorem t154 : (compF Tryz.prog 5 false Tryz.f154).map kFn = some k154 := by kernel_rfl
theorem t155 : (compF Tryz.prog 5 false Tryz.f155).map kFn = some k155 := by kernel_rfl
theorem t156 : (compF Tryz.prog 5 false Tryz.f156).map kFn = some k156 := by kernel_rfl
theorem t157 : (compF Tryz.prog 5 true Tryz.f157).map kFn = some k157 := by kernel_rfl
theorem t158 : (compF Tryz.prog 5 false Tryz.f158).map kFn = some k158 := by kernel_rfl
theorem t159 : (compF Tryz.prog 5 false Tryz.f159).map kFn = some k159 := by kernel_rfl
theorem t160 : (compF Tryz.prog 5 false Tryz.f160).map kFn = some k160 := by kernel_rfl
theorem t161 : (compF Tryz.prog 5 false Tryz.f161).map kFn = some k161 := by kernel_rfl
theorem t162 : (compF Tryz.prog 5 false Tryz.f162).map kFn = some k162 := by kernel_rfl
theorem t163 : (compF Tryz.prog 5 false Tryz.f163).map kFn = some k163 := by kernel_rfl
theorem t164 : (compF Tryz.prog 5 false Tryz.f164).map kFn = some k164 := by kernel_rfl
theorem t165 : (compF Tryz.prog 5 false Tryz.f165).map kFn = some k165 := by kernel_rfl
theorem t166 : (compF Tryz.prog 5 false Tryz.f166).map kFn = some k166 := by kernel_rfl
theorem t167 : (compF Tryz.prog 5 false Tryz.f167).map kFn = some k167 := by kernel_rfl
theorem t168 : (compF Tryz.prog 5 false Tryz.f168).map kFn = some k168 := by kernel_rfl
theorem t172 : (compF Tryz.prog 5 false Tryz.f172).map kFn = some k172 := by kernel_rfl
theorem t173 : (compF Tryz.prog 5 false Tryz.f173).map kFn = some k173 := by kernel_rfl
theorem t174 : (compF Tryz.prog 5 false Tryz.f174).map kFn = some k174 := by kernel_rfl
theorem t175 : (compF Tryz.prog 5 false Tryz.f175).map kFn = some k175 := by kernel_rfl
theorem t176 : (compF Tryz.prog 5 false Tryz.f176).map kFn = some k176 := by kernel_rfl
theorem t177 : (compF Tryz.prog 5 false Tryz.f177).map kFn = some k177 := by kernel_rfl
theorem t178 : (compF Tryz.prog 5 false Tryz.f178).map kFn = some k178 := by kernel_rfl
theorem t179 : (compF Tryz.prog 5 false Tryz.f179).map kFn = some k179 := by kernel_rfl
theorem t180 : (compF Tryz.prog 5 false Tryz.f180).map kFn = some k180 := by kernel_rfl
theorem t181 : (compF Tryz.prog 5 false Tryz.f181).map kFn = some k181 := by kernel_rfl
theorem t183 : (compF Tryz.prog 5 false Tryz.f183).map kFn = some k183 := by kernel_rfl
theorem t184 : (compF Tryz.prog 5 false Tryz.f184).map kFn = some k184 := by kernel_rfl
theorem t185 : (compF Tryz.prog 5 false Tryz.f185).map kFn = some k185 := by kernel_rfl
theorem t186 : (compF Tryz.prog 5 false Tryz.f186).map kFn = some k186 := by kernel_rfl
theorem t187 : (compF Tryz.prog 5 false Tryz.f187).map kFn = some k187 := by kernel_rfl
theorem t188 : (compF Tryz.prog 5 false Tryz.f188).map kFn = some k188 := by kernel_rfl
theorem t189 : (compF Tryz.prog 5 false Tryz.f189).map kFn = some k189 := by kernel_rfl
theorem t190 : (compF Tryz.prog 5 false Tryz.f190).map kFn = some k190 := by kernel_rfl
theorem t191 : (compF Tryz.prog 5 false Tryz.f191).map kFn = some k191 := by kernel_rfl
theorem t192 : (compF Tryz.prog 5 false Tryz.f192).map kFn = some k192 := by kernel_rfl
theorem t193 : (compF Tryz.prog 5 false Tryz.f193).map kFn = some k193 := by kernel_rfl
theorem t194 : (compF Tryz.prog 5 false Tryz.f194).map kFn = some k194 := by kernel_rfl
theorem t195 : (compF Tryz.prog 5 false Tryz.f195).map kFn = some k195 := by kernel_rfl
theorem t196 : (compF Tryz.prog 5 false Tryz.f196).map kFn = some k196 := by kernel_rfl
theorem t198 : (compF Tryz.prog 5 false Tryz.f198).map kFn = some k198 := by kernel_rfl
theorem t199 : (compF Tryz.prog 5 false Tryz.f199).map kFn = some k199 := by kernel_rfl
theorem t206 : (compF Tryz.prog 5 false Tryz.f206).map kFn = some k206 := by kernel_rfl
theorem t207 : (compF Tryz.prog 5 false Tryz.f207).map kFn = some k207 := by kernel_rfl
theorem t208 : (compF Tryz.prog 5 false Tryz.f208).map kFn = some k208 := by kernel_rfl
theorem t209 : (compF Tryz.prog 5 false Tryz.f209).map kFn = some k209 := by kernel_rfl
theorem t210 : (compF Tryz.prog 5 false Tryz.f210).map kFn = some k210 := by kernel_rfl
theorem t212 : (compF Tryz.prog 5 false Tryz.f212).map kFn = some k212 := by kernel_rfl
theorem t213 : (compF Tryz.prog 5 false Tryz.f213).map kFn = some k213 := by kernel_rfl
theorem t214 : (compF Tryz.prog 5 false Tryz.f214).map kFn = some k214 := by kernel_rfl
theorem t219 : (compF Tryz.prog 5 false Tryz.f219).map kFn = some k219 := by kernel_rfl
theorem t220 : (compF Tryz.prog 5 false Tryz.f220).map kFn = some k220 := by kernel_rfl
theorem t225 : (compF Tryz.prog 5 false Tryz.f225).map kFn = some k225 := by kernel_rfl
theorem t227 : (compF Tryz.prog 5 false Tryz.f227).map kFn = some k227 := by kernel_rfl
theorem t228 : (compF Tryz.prog 5 false Tryz.f228).map kFn = some k228 := by kernel_rfl
theorem t229 : (compF Tryz.prog 5 false Tryz.f229).map kFn = some k229 := by kernel_rfl
theorem t230 : (compF Tryz.prog 5 false Tryz.f230).map kFn = some k230 := by kernel_rfl
theorem t232 : (compF Tryz.prog 5 false Tryz.f232).map kFn = some k232 := by kernel_rfl
theorem t233 : (compF Tryz.prog 5 false Tryz.f233).map kFn = some k233 := by kernel_rfl
theorem t234 : (compF Tryz.prog 5 false Tryz.f234).map kFn = some k234 := by kernel_rfl
theorem t235 : (compF Tryz.prog 5 false Tryz.f235).map kFn = some k235 := by kernel_rfl
theorem t236 : (compF Tryz.prog 5 false Tryz.f236).map kFn = some k236 := by kernel_rfl
theorem t238 : (compF Tryz.prog 5 false Tryz.f238).map kFn = some k238 := by kernel_rfl
theorem t239 : (compF Tryz.prog 5 false Tryz.f239).map kFn = some k239 := by kernel_rfl
theorem t242 : (compF Tryz.prog 5 false Tryz.f242).map kFn = some k242 := by kernel_rfl
theorem t244 : (compF Tryz.prog 5 false Tryz.f244).map kFn = some k244 := by kernel_rfl
theorem t250 : (compF Tryz.prog 5 false Tryz.f250).map kFn = some k250 := by kernel_rfl
theorem t251 : (compF Tryz.prog 5 false Tryz.f251).map kFn = some k251 := by kernel_rfl
theorem t252 : (compF Tryz.prog 5 false Tryz.f252).map kFn = some k252 := by kernel_rfl
theorem t253 : (compF Tryz.prog 5 false Tryz.f253).map kFn = some k253 := by kernel_rfl
theorem t254 : (compF Tryz.prog 5 false Tryz.f254).map kFn = some k254 := by kernel_rfl
theorem t255 : (compF Tryz.prog 5 false Tryz.f255).map kFn = some k255 := by kernel_rfl
theorem t256 : (compF Tryz.prog 5 false Tryz.f256).map kFn = some k256 := by kernel_rfl
theorem t257 : (compF Tryz.prog 5 false Tryz.f257).map kFn = some k257 := by kernel_rfl
theorem t258 : (compF Tryz.prog 5 false Tryz.f258).map kFn = some k258 := by kernel_rfl
theorem t259 : (compF Tryz.prog 5 false Tryz.f259).map kFn = some k259 := by kernel_rfl
theorem t260 : (compF Tryz.prog 5 false Tryz.f260).map kFn = some k260 := by kernel_rfl
theorem t261 : (compF Tryz.prog 5 false Tryz.f261).map kFn = some k261 := by kernel_rfl
theorem t270 : (compF Tryz.prog 5 false Tryz.f270).map kFn = some k270 := by kernel_rfl
theorem t271 : (compF Tryz.prog 5 false Tryz.f271).map kFn = some k271 := by kernel_rfl
theorem t291 : (compF Tryz.prog 5 false Tryz.f291).map kFn = some k291 := by kernel_rfl
theorem t292 : (compF Tryz.prog 5 false Tryz.f292).map kFn = some k292 := by kernel_rfl
theorem t293 : (compF Tryz.prog 5 false Tryz.f293).map kFn = some k293 := by kernel_rfl
theorem t294 : (compF Tryz.prog 5 false Tryz.f294).map kFn = some k294 := by kernel_rfl
theorem t295 : (compF Tryz.prog 5 false Tryz.f295).map kFn = some k295 := by kernel_rfl
theorem t296 : (compF Tryz.prog 5 false Tryz.f296).map kFn = some k296 := by kernel_rfl
theorem t297 : (compF Tryz.prog 5 false Tryz.f297).map kFn = some k297 := by kernel_rfl
/-- an entry of the table -/
def Ent (f : Nat) (k : FnK) : Prop := ∃ fn, tblP Tryz.prog 5 hp f = some fn ∧ k = kFn fn
theorem ent {f : Nat} {k : FnK} {fn : Func} (b : Bool) (h : Tryz.prog.funcs[f]? = some fn) (hb : hp f = b) (ht : (compF Tryz.prog 5 b fn).map kFn = some k) : Ent f k := by
  obtain ⟨q, h1, h2⟩ := Option.map_eq_some_iff.1 ht
  exact ⟨q, by unfold tblP; rw [h]; show compF _ _ (hp f) fn = _; rw [hb]; exact h1, h2.symm⟩
/-- all entries of a tree -/
def AllT (Q : Nat → FnK → Prop) : Tr FnK → Prop
  | .leaf => True
  | .node l v r => AllT (fun i => Q (2 * i + 1)) l ∧ (∀ k, v = some k → Q 0 k) ∧ AllT (fun i => Q (2 * i + 2)) r
theorem AllT.get : ∀ {t : Tr FnK} {Q : Nat → FnK → Prop} {f : Nat} {k : FnK}, AllT Q t → t.get f = some k → Q f k
  | .leaf, Q, f, k, _, h => by cases f <;> cases h
  | .node l v r, Q, 0, k, hq, h => hq.2.1 k h
  | .node l v r, Q, j + 1, k, hq, h => by
    simp only [Tr.get] at h
    split at h
    · rename_i h0
      have := AllT.get hq.1 h
      have e : 2 * (j / 2) + 1 = j + 1 := by omega
      rw [e] at this; exact this
    · rename_i h0
      have := AllT.get hq.2.2 h
      have e : 2 * (j / 2) + 2 = j + 1 := by
        have : j % 2 ≠ 0 := fun hq => h0 hq
        omega
      rw [e] at this; exact this
theorem oneE {Q : FnK → Prop} {k : FnK} (h : Q k) : ∀ q, some k = some q → Q q := fun q hq => by injection hq with hq; subst hq; exact h
theorem noE {Q : FnK → Prop} : ∀ q, none = some q → Q q := fun q hq => by cases hq
theorem all_ok : AllT Ent ktree := ⟨⟨⟨⟨⟨⟨⟨⟨⟨trivial, oneE (ent false Tryz.func255 (by kernel_rfl) t255), trivial⟩, oneE (ent false Tryz.func127 (by kernel_rfl) t127), trivial⟩, oneE (ent true Tryz.func63 (by kernel_rfl) t63), ⟨trivial, oneE (ent false Tryz.func191 (by kernel_rfl) t191), trivial⟩⟩, noE, ⟨⟨trivial, oneE (ent false Tryz.func159 (by kernel_rfl) t159), trivial⟩, oneE (ent false Tryz.func95 (by kernel_rfl) t95), trivial⟩⟩, oneE (ent false Tryz.func15 (by kernel_rfl) t15), ⟨⟨⟨⟨trivial, oneE (ent false Tryz.func271 (by kernel_rfl) t271), trivial⟩, oneE (ent true Tryz.func143 (by kernel_rfl) t143), trivial⟩, oneE (ent false Tryz.func79 (by kernel_rfl) t79), ⟨trivial, oneE (ent false Tryz.func207 (by kernel_rfl) t207), trivial⟩⟩, oneE (ent false Tryz.func47 (by kernel_rfl) t47), ⟨⟨trivial, oneE (ent false Tryz.func175 (by kernel_rfl) t175), trivial⟩, oneE (ent false Tryz.func111 (by kernel_rfl) t111), ⟨trivial, oneE (ent false Tryz.func239 (by kernel_rfl) t239), trivial⟩⟩⟩⟩, oneE (ent false Tryz.func7 (by kernel_rfl) t7), ⟨⟨⟨⟨trivial, oneE (ent false Tryz.func135 (by kernel_rfl) t135), trivial⟩, oneE (ent false Tryz.func71 (by kernel_rfl) t71), ⟨trivial, oneE (ent false Tryz.func199 (by kernel_rfl) t199), trivial⟩⟩, oneE (ent false Tryz.func39 (by kernel_rfl) t39), ⟨⟨⟨trivial, oneE (ent false Tryz.func295 (by kernel_rfl) t295), trivial⟩, oneE (ent false Tryz.func167 (by kernel_rfl) t167), trivial⟩, noE, trivial⟩⟩, oneE (ent false Tryz.func23 (by kernel_rfl) t23), ⟨⟨trivial, oneE (ent false Tryz.func87 (by kernel_rfl) t87), trivial⟩, oneE (ent false Tryz.func55 (by kernel_rfl) t55), ⟨⟨trivial, oneE (ent false Tryz.func183 (by kernel_rfl) t183), trivial⟩, oneE (ent false Tryz.func119 (by kernel_rfl) t119), trivial⟩⟩⟩⟩, oneE (ent false Tryz.func3 (by kernel_rfl) t3), ⟨⟨⟨⟨⟨⟨trivial, oneE (ent false Tryz.func259 (by kernel_rfl) t259), trivial⟩, oneE (ent false Tryz.func131 (by kernel_rfl) t131), trivial⟩, oneE (ent false Tryz.func67 (by kernel_rfl) t67), ⟨trivial, oneE (ent false Tryz.func195 (by kernel_rfl) t195), trivial⟩⟩, noE, ⟨⟨⟨trivial, oneE (ent false Tryz.func291 (by kernel_rfl) t291), trivial⟩, oneE (ent false Tryz.func163 (by kernel_rfl) t163), trivial⟩, oneE (ent false Tryz.func99 (by kernel_rfl) t99), ⟨trivial, oneE (ent false Tryz.func227 (by kernel_rfl) t227), trivial⟩⟩⟩, oneE (ent false Tryz.func19 (by kernel_rfl) t19), ⟨⟨trivial, oneE (ent false Tryz.func83 (by kernel_rfl) t83), trivial⟩, oneE (ent false Tryz.func51 (by kernel_rfl) t51), ⟨⟨trivial, oneE (ent false Tryz.func179 (by kernel_rfl) t179), trivial⟩, oneE (ent false Tryz.func115 (by kernel_rfl) t115), trivial⟩⟩⟩, noE, ⟨⟨⟨⟨trivial, oneE (ent false Tryz.func139 (by kernel_rfl) t139), trivial⟩, oneE (ent false Tryz.func75 (by kernel_rfl) t75), trivial⟩, oneE (ent false Tryz.func43 (by kernel_rfl) t43), ⟨trivial, oneE (ent false Tryz.func107 (by kernel_rfl) t107), ⟨trivial, oneE (ent false Tryz.func235 (by kernel_rfl) t235), trivial⟩⟩⟩, oneE (ent false Tryz.func27 (by kernel_rfl) t27), ⟨⟨⟨trivial, oneE (ent false Tryz.func155 (by kernel_rfl) t155), trivial⟩, oneE (ent false Tryz.func91 (by kernel_rfl) t91), ⟨trivial, oneE (ent false Tryz.func219 (by kernel_rfl) t219), trivial⟩⟩, oneE (ent false Tryz.func59 (by kernel_rfl) t59), ⟨⟨trivial, oneE (ent false Tryz.func187 (by kernel_rfl) t187), trivial⟩, oneE (ent false Tryz.func123 (by kernel_rfl) t123), ⟨trivial, oneE (ent false Tryz.func251 (by kernel_rfl) t251), trivial⟩⟩⟩⟩⟩⟩, noE, ⟨⟨⟨⟨⟨⟨⟨trivial, oneE (ent false Tryz.func257 (by kernel_rfl) t257), trivial⟩, oneE (ent false Tryz.func129 (by kernel_rfl) t129), trivial⟩, oneE (ent false Tryz.func65 (by kernel_rfl) t65), ⟨trivial, oneE (ent false Tryz.func193 (by kernel_rfl) t193), trivial⟩⟩, oneE (ent false Tryz.func33 (by kernel_rfl) t33), ⟨⟨trivial, oneE (ent false Tryz.func161 (by kernel_rfl) t161), trivial⟩, oneE (ent false Tryz.func97 (by kernel_rfl) t97), ⟨trivial, oneE (ent false Tryz.func225 (by kernel_rfl) t225), trivial⟩⟩⟩, oneE (ent false Tryz.func17 (by kernel_rfl) t17), ⟨⟨⟨trivial, oneE (ent false Tryz.func145 (by kernel_rfl) t145), trivial⟩, oneE (ent false Tryz.func81 (by kernel_rfl) t81), ⟨trivial, oneE (ent false Tryz.func209 (by kernel_rfl) t209), trivial⟩⟩, oneE (ent false Tryz.func49 (by kernel_rfl) t49), ⟨⟨trivial, oneE (ent false Tryz.func177 (by kernel_rfl) t177), trivial⟩, oneE (ent false Tryz.func113 (by kernel_rfl) t113), trivial⟩⟩⟩, noE, ⟨⟨⟨⟨trivial, oneE (ent false Tryz.func137 (by kernel_rfl) t137), trivial⟩, oneE (ent false Tryz.func73 (by kernel_rfl) t73), trivial⟩, oneE (ent false Tryz.func41 (by kernel_rfl) t41), ⟨⟨⟨trivial, oneE (ent false Tryz.func297 (by kernel_rfl) t297), trivial⟩, noE, trivial⟩, oneE (ent false Tryz.func105 (by kernel_rfl) t105), ⟨trivial, oneE (ent false Tryz.func233 (by kernel_rfl) t233), trivial⟩⟩⟩, oneE (ent false Tryz.func25 (by kernel_rfl) t25), ⟨⟨trivial, oneE (ent false Tryz.func89 (by kernel_rfl) t89), trivial⟩, oneE (ent false Tryz.func57 (by kernel_rfl) t57), ⟨⟨trivial, oneE (ent false Tryz.func185 (by kernel_rfl) t185), trivial⟩, oneE (ent false Tryz.func121 (by kernel_rfl) t121), trivial⟩⟩⟩⟩, oneE (ent false Tryz.func5 (by kernel_rfl) t5), ⟨⟨⟨⟨⟨⟨trivial, oneE (ent false Tryz.func261 (by kernel_rfl) t261), trivial⟩, oneE (ent true Tryz.func133 (by kernel_rfl) t133), trivial⟩, oneE (ent false Tryz.func69 (by kernel_rfl) t69), trivial⟩, oneE (ent true Tryz.func37 (by kernel_rfl) t37), ⟨⟨⟨trivial, oneE (ent false Tryz.func293 (by kernel_rfl) t293), trivial⟩, oneE (ent false Tryz.func165 (by kernel_rfl) t165), trivial⟩, oneE (ent false Tryz.func101 (by kernel_rfl) t101), ⟨trivial, oneE (ent false Tryz.func229 (by kernel_rfl) t229), trivial⟩⟩⟩, oneE (ent false Tryz.func21 (by kernel_rfl) t21), ⟨⟨trivial, oneE (ent false Tryz.func85 (by kernel_rfl) t85), ⟨trivial, oneE (ent false Tryz.func213 (by kernel_rfl) t213), trivial⟩⟩, oneE (ent false Tryz.func53 (by kernel_rfl) t53), ⟨⟨trivial, oneE (ent false Tryz.func181 (by kernel_rfl) t181), trivial⟩, oneE (ent false Tryz.func117 (by kernel_rfl) t117), trivial⟩⟩⟩, oneE (ent false Tryz.func13 (by kernel_rfl) t13), ⟨⟨⟨⟨trivial, oneE (ent false Tryz.func141 (by kernel_rfl) t141), trivial⟩, oneE (ent false Tryz.func77 (by kernel_rfl) t77), trivial⟩, oneE (ent false Tryz.func45 (by kernel_rfl) t45), ⟨⟨trivial, oneE (ent false Tryz.func173 (by kernel_rfl) t173), trivial⟩, oneE (ent false Tryz.func109 (by kernel_rfl) t109), trivial⟩⟩, oneE (ent false Tryz.func29 (by kernel_rfl) t29), ⟨⟨⟨trivial, oneE (ent true Tryz.func157 (by kernel_rfl) t157), trivial⟩, oneE (ent false Tryz.func93 (by kernel_rfl) t93), trivial⟩, oneE (ent false Tryz.func61 (by kernel_rfl) t61), ⟨⟨trivial, oneE (ent false Tryz.func189 (by kernel_rfl) t189), trivial⟩, oneE (ent false Tryz.func125 (by kernel_rfl) t125), ⟨trivial, oneE (ent false Tryz.func253 (by kernel_rfl) t253), trivial⟩⟩⟩⟩⟩⟩⟩, noE, ⟨⟨⟨⟨⟨⟨⟨⟨trivial, oneE (ent false Tryz.func256 (by kernel_rfl) t256), trivial⟩, oneE (ent false Tryz.func128 (by kernel_rfl) t128), trivial⟩, oneE (ent false Tryz.func64 (by kernel_rfl) t64), ⟨trivial, oneE (ent false Tryz.func192 (by kernel_rfl) t192), trivial⟩⟩, noE, ⟨⟨trivial, oneE (ent false Tryz.func160 (by kernel_rfl) t160), trivial⟩, oneE (ent false Tryz.func96 (by kernel_rfl) t96), trivial⟩⟩, oneE (ent false Tryz.func16 (by kernel_rfl) t16), ⟨⟨⟨trivial, oneE (ent false Tryz.func144 (by kernel_rfl) t144), trivial⟩, oneE (ent false Tryz.func80 (by kernel_rfl) t80), ⟨trivial, oneE (ent false Tryz.func208 (by kernel_rfl) t208), trivial⟩⟩, oneE (ent false Tryz.func48 (by kernel_rfl) t48), ⟨⟨trivial, oneE (ent false Tryz.func176 (by kernel_rfl) t176), trivial⟩, oneE (ent false Tryz.func112 (by kernel_rfl) t112), trivial⟩⟩⟩, oneE (ent false Tryz.func8 (by kernel_rfl) t8), ⟨⟨⟨⟨trivial, oneE (ent false Tryz.func136 (by kernel_rfl) t136), trivial⟩, oneE (ent false Tryz.func72 (by kernel_rfl) t72), trivial⟩, oneE (ent false Tryz.func40 (by kernel_rfl) t40), ⟨⟨⟨trivial, oneE (ent false Tryz.func296 (by kernel_rfl) t296), trivial⟩, oneE (ent false Tryz.func168 (by kernel_rfl) t168), trivial⟩, oneE (ent false Tryz.func104 (by kernel_rfl) t104), ⟨trivial, oneE (ent false Tryz.func232 (by kernel_rfl) t232), trivial⟩⟩⟩, oneE (ent false Tryz.func24 (by kernel_rfl) t24), ⟨⟨trivial, oneE (ent false Tryz.func88 (by kernel_rfl) t88), trivial⟩, oneE (ent false Tryz.func56 (by kernel_rfl) t56), ⟨⟨trivial, oneE (ent false Tryz.func184 (by kernel_rfl) t184), trivial⟩, oneE (ent false Tryz.func120 (by kernel_rfl) t120), trivial⟩⟩⟩⟩, oneE (ent false Tryz.func4 (by kernel_rfl) t4), ⟨⟨⟨⟨⟨⟨trivial, oneE (ent false Tryz.func260 (by kernel_rfl) t260), trivial⟩, oneE (ent false Tryz.func132 (by kernel_rfl) t132), trivial⟩, oneE (ent false Tryz.func68 (by kernel_rfl) t68), ⟨trivial, oneE (ent false Tryz.func196 (by kernel_rfl) t196), trivial⟩⟩, oneE (ent false Tryz.func36 (by kernel_rfl) t36), ⟨⟨⟨trivial, oneE (ent false Tryz.func292 (by kernel_rfl) t292), trivial⟩, oneE (ent false Tryz.func164 (by kernel_rfl) t164), trivial⟩, oneE (ent true Tryz.func100 (by kernel_rfl) t100), ⟨trivial, oneE (ent false Tryz.func228 (by kernel_rfl) t228), trivial⟩⟩⟩, oneE (ent false Tryz.func20 (by kernel_rfl) t20), ⟨⟨trivial, oneE (ent false Tryz.func84 (by kernel_rfl) t84), ⟨trivial, oneE (ent false Tryz.func212 (by kernel_rfl) t212), trivial⟩⟩, oneE (ent false Tryz.func52 (by kernel_rfl) t52), ⟨⟨trivial, oneE (ent false Tryz.func180 (by kernel_rfl) t180), trivial⟩, oneE (ent false Tryz.func116 (by kernel_rfl) t116), ⟨trivial, oneE (ent false Tryz.func244 (by kernel_rfl) t244), trivial⟩⟩⟩⟩, noE, ⟨⟨⟨⟨trivial, oneE (ent false Tryz.func140 (by kernel_rfl) t140), trivial⟩, oneE (ent false Tryz.func76 (by kernel_rfl) t76), trivial⟩, oneE (ent false Tryz.func44 (by kernel_rfl) t44), ⟨⟨trivial, oneE (ent false Tryz.func172 (by kernel_rfl) t172), trivial⟩, oneE (ent false Tryz.func108 (by kernel_rfl) t108), ⟨trivial, oneE (ent false Tryz.func236 (by kernel_rfl) t236), trivial⟩⟩⟩, oneE (ent false Tryz.func28 (by kernel_rfl) t28), ⟨⟨⟨trivial, oneE (ent false Tryz.func156 (by kernel_rfl) t156), trivial⟩, oneE (ent false Tryz.func92 (by kernel_rfl) t92), ⟨trivial, oneE (ent false Tryz.func220 (by kernel_rfl) t220), trivial⟩⟩, oneE (ent false Tryz.func60 (by kernel_rfl) t60), ⟨⟨trivial, oneE (ent false Tryz.func188 (by kernel_rfl) t188), trivial⟩, oneE (ent false Tryz.func124 (by kernel_rfl) t124), ⟨trivial, oneE (ent false Tryz.func252 (by kernel_rfl) t252), trivial⟩⟩⟩⟩⟩⟩, noE, ⟨⟨⟨⟨⟨⟨⟨trivial, oneE (ent false Tryz.func258 (by kernel_rfl) t258), trivial⟩, oneE (ent false Tryz.func130 (by kernel_rfl) t130), trivial⟩, oneE (ent false Tryz.func66 (by kernel_rfl) t66), ⟨trivial, oneE (ent false Tryz.func194 (by kernel_rfl) t194), trivial⟩⟩, oneE (ent false Tryz.func34 (by kernel_rfl) t34), ⟨⟨trivial, oneE (ent false Tryz.func162 (by kernel_rfl) t162), trivial⟩, oneE (ent false Tryz.func98 (by kernel_rfl) t98), trivial⟩⟩, oneE (ent false Tryz.func18 (by kernel_rfl) t18), ⟨⟨⟨trivial, oneE (ent false Tryz.func146 (by kernel_rfl) t146), trivial⟩, oneE (ent false Tryz.func82 (by kernel_rfl) t82), ⟨trivial, oneE (ent false Tryz.func210 (by kernel_rfl) t210), trivial⟩⟩, oneE (ent false Tryz.func50 (by kernel_rfl) t50), ⟨⟨trivial, oneE (ent false Tryz.func178 (by kernel_rfl) t178), trivial⟩, oneE (ent true Tryz.func114 (by kernel_rfl) t114), ⟨trivial, oneE (ent false Tryz.func242 (by kernel_rfl) t242), trivial⟩⟩⟩⟩, noE, ⟨⟨⟨⟨trivial, oneE (ent false Tryz.func138 (by kernel_rfl) t138), trivial⟩, oneE (ent false Tryz.func74 (by kernel_rfl) t74), trivial⟩, oneE (ent true Tryz.func42 (by kernel_rfl) t42), ⟨trivial, oneE (ent false Tryz.func106 (by kernel_rfl) t106), ⟨trivial, oneE (ent false Tryz.func234 (by kernel_rfl) t234), trivial⟩⟩⟩, oneE (ent false Tryz.func26 (by kernel_rfl) t26), ⟨⟨⟨trivial, oneE (ent false Tryz.func154 (by kernel_rfl) t154), trivial⟩, oneE (ent false Tryz.func90 (by kernel_rfl) t90), trivial⟩, noE, ⟨⟨trivial, oneE (ent false Tryz.func186 (by kernel_rfl) t186), trivial⟩, oneE (ent true Tryz.func122 (by kernel_rfl) t122), ⟨trivial, oneE (ent false Tryz.func250 (by kernel_rfl) t250), trivial⟩⟩⟩⟩⟩, oneE (ent false Tryz.func6 (by kernel_rfl) t6), ⟨⟨⟨⟨⟨trivial, oneE (ent false Tryz.func134 (by kernel_rfl) t134), trivial⟩, oneE (ent false Tryz.func70 (by kernel_rfl) t70), ⟨trivial, oneE (ent false Tryz.func198 (by kernel_rfl) t198), trivial⟩⟩, oneE (ent false Tryz.func38 (by kernel_rfl) t38), ⟨⟨⟨trivial, oneE (ent false Tryz.func294 (by kernel_rfl) t294), trivial⟩, oneE (ent false Tryz.func166 (by kernel_rfl) t166), trivial⟩, oneE (ent false Tryz.func102 (by kernel_rfl) t102), ⟨trivial, oneE (ent false Tryz.func230 (by kernel_rfl) t230), trivial⟩⟩⟩, oneE (ent false Tryz.func22 (by kernel_rfl) t22), ⟨⟨trivial, oneE (ent false Tryz.func86 (by kernel_rfl) t86), ⟨trivial, oneE (ent false Tryz.func214 (by kernel_rfl) t214), trivial⟩⟩, oneE (ent false Tryz.func54 (by kernel_rfl) t54), ⟨trivial, oneE (ent false Tryz.func118 (by kernel_rfl) t118), trivial⟩⟩⟩, oneE (ent false Tryz.func14 (by kernel_rfl) t14), ⟨⟨⟨⟨⟨trivial, oneE (ent false Tryz.func270 (by kernel_rfl) t270), trivial⟩, oneE (ent false Tryz.func142 (by kernel_rfl) t142), trivial⟩, oneE (ent false Tryz.func78 (by kernel_rfl) t78), ⟨trivial, oneE (ent false Tryz.func206 (by kernel_rfl) t206), trivial⟩⟩, oneE (ent false Tryz.func46 (by kernel_rfl) t46), ⟨⟨trivial, oneE (ent false Tryz.func174 (by kernel_rfl) t174), trivial⟩, oneE (ent false Tryz.func110 (by kernel_rfl) t110), ⟨trivial, oneE (ent false Tryz.func238 (by kernel_rfl) t238), trivial⟩⟩⟩, noE, ⟨⟨⟨trivial, oneE (ent false Tryz.func158 (by kernel_rfl) t158), trivial⟩, oneE (ent false Tryz.func94 (by kernel_rfl) t94), trivial⟩, oneE (ent false Tryz.func62 (by kernel_rfl) t62), ⟨⟨trivial, oneE (ent false Tryz.func190 (by kernel_rfl) t190), trivial⟩, oneE (ent false Tryz.func126 (by kernel_rfl) t126), ⟨trivial, oneE (ent false Tryz.func254 (by kernel_rfl) t254), trivial⟩⟩⟩⟩⟩⟩⟩⟩
theorem kt_ok : KtOK kt (tblP Tryz.prog 5 hp) := fun f k h => by
  have h' : ktree.get f = some k := by rw [← trGet_ok]; exact h
  exact AllT.get all_ok h'
end KK
end Den
