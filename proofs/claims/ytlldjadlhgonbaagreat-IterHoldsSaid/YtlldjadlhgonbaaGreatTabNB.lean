/- Functions of the program as closures. -/
import Derived.Test.YtlldjadlhgonbaaGreatTabNA
set_option linter.unusedVariables false
set_option linter.unusedSimpArgs false
set_option autoImplicit false
set_option maxRecDepth 100000
namespace Den
open Go
namespace KK
/-- (*wimple/job.Job).Chase -/
noncomputable def k161 : FnK := ⟨kD p4 (oMov (kV (.bool false))) <|
 kD p10 (oMov g0) <|
 kCall p11 (cF 64 (aC g10 aN)) <|
 kD p9 (oMov g11) <|
 kD p12 (oExt g9 0) <|
 kD p13 (oExt g9 1) <|
 kD p5 (oAlloc [(.str []), (vi 0), (.str []), (.str []), (vi 0), (.bool false), (vi 0), (vi 0)]) <|
 kD0 (oSt 8 g5 g12) <|
 kD p6 (oMov g13) <|
 kD p15 (oMov g1) <|
 kD p16 (oFld 1 g5) <|
 kD p17 (oLd false 1 g16) <|
 kCall p18 (cF 66 (aC g15 (aC g17 (aC (kV (.str [0])) aN)))) <|
 kD p14 (oMov g18) <|
 kD p19 (oExt g14 0) <|
 kD p20 (oExt g14 1) <|
 kD p7 (oAlloc [(.str []), (vi 0), (.str []), (.str []), (vi 0), (.bool false), (vi 0), (vi 0)]) <|
 kD0 (oSt 8 g7 g19) <|
 kD p8 (oMov g20) <|
 kSeq (kD p21 (oMov g6) <|
 kD p22 (oNot g21) <|
 kD p23 (oMov g22) <|
 kD p24 (oG g23 false (oMov g8)) <|
 kD p25 (oG g23 false (o_neq g24 (ci 0))) <|
 kD p26 (oPick g23 (kV (.bool true)) g25) <|
 kD p27 (oMov g26) <|
 kD p28 (oG g27 false (oMov g0)) <|
 kD p29 (oG g27 false (oNil g28)) <|
 kD p30 (oG g27 false (oFld 3 g29)) <|
 kD p31 (oG g27 false (oLd false 1 g30)) <|
 kD p32 (oG g27 false (o_eql g31 (ci 0))) <|
 kD p33 (oPick g27 (kV (.bool true)) g32) <|
 kCond g33 (kD p4 (oMov (kV (.bool false))) <|
 kRet) <|
 kEnd) <|
 kD p34 (oMov g0) <|
 kD p35 (oNil g34) <|
 kD p36 (oFld 3 g35) <|
 kD p37 (oLd false 1 g36) <|
 kD p38 (o_sub g37 (ci 1)) <|
 kD p39 (oNil g34) <|
 kD p40 (oFld 3 g39) <|
 kD0 (oSt 1 g40 g38) <|
 kD p41 (oMov g0) <|
 kD p42 (oLd true 8 g7) <|
 kCall p43 (cF 90 (aC g41 (aC g42 aN))) <|
 kD p4 (oMov (kV (.bool true))) <|
 kRet,
 (r1 g4)⟩
/-- wimple/rdata.Unsoa -/
noncomputable def k162 : FnK := ⟨kD p2 (oAlloc [(.str []), (.str []), (vi 0), (vi 0), (vi 0), (vi 0), (vi 0)]) <|
 kD p3 (oMov (ci 0)) <|
 kSeq (kD p9 (oMov g0) <|
 kCall p10 (cF 206 (aC (ci 6) (aC g9 aN))) <|
 kD p11 (oNot g10) <|
 kCond g11 (kD p12 (oBuild [(.str []), (.str []), (vi 0), (vi 0), (vi 0), (vi 0), (vi 0)] bN) <|
 kD0 (oSt 7 g2 g12) <|
 kD p3 (oMov (ci 400)) <|
 kRet) <|
 kEnd) <|
 kD p13 (oMov g0) <|
 kCall p14 (cF 212 (aC g13 aN)) <|
 kD p4 (oMov g14) <|
 kD p15 (oMov g4) <|
 kD p16 (oMov g0) <|
 kD p17 (oMov g4) <|
 kD p18 (oSlc 0 g16 (some g17) none (oPs (.slc 0 (.t s16) (some (.t s17)) none none))) <|
 kCall p19 (cF 212 (aC g18 aN)) <|
 kD p20 (o_add g15 g19) <|
 kD p5 (oMov g20) <|
 kD p21 (oMov g0) <|
 kD p22 (oMov g4) <|
 kD p23 (oSlc 0 g21 none (some g22) (oPs (.slc 0 (.t s21) none (some (.t s22)) none))) <|
 kD p24 (oMov g0) <|
 kD p25 (oMov g4) <|
 kD p26 (oMov g5) <|
 kD p27 (oSlc 0 g24 (some g25) (some g26) (oPs (.slc 0 (.t s24) (some (.t s25)) (some (.t s26)) none))) <|
 kD p28 (oBuild [(.str []), (.str []), (vi 0), (vi 0), (vi 0), (vi 0), (vi 0)] (bC 0 1 g23 (bC 1 1 g27 bN))) <|
 kD p6 (oAlloc [(.str []), (.str []), (vi 0), (vi 0), (vi 0), (vi 0), (vi 0)]) <|
 kD0 (oSt 7 g6 g28) <|
 kSeq (kCall p29 (cF 213 (aC g6 aN)) <|
 kD p30 (oMov (ci 0)) <|
 kBlock 0 <|
 kLoop <|
 kD p31 (o_lss g30 (ci 5)) <|
 kSeq (kCond g31 (kEnd) <|
 kExit 0) <|
 kSeq (kBlock 1 <|
 kD p32 (oIdxv false 5 1 g29 g30) <|
 kD p8 (oMov g32) <|
 kD p34 (oMov g8) <|
 kD p35 (oMov g0) <|
 kD p36 (oMov g5) <|
 kCall p37 (cF 188 (aC g35 (aC g36 aN))) <|
 kD p33 (oMov g37) <|
 kD p38 (oExt g33 0) <|
 kD p39 (oExt g33 1) <|
 kD p40 (oExt g33 2) <|
 kD p41 (oNil g34) <|
 kD0 (oSt 1 g41 g38) <|
 kD p5 (oMov g39) <|
 kEnd) <|
 kD p42 (o_add g30 (ci 1)) <|
 kD p30 (oMov g42) <|
 kEnd) <|
 kD p43 (oLd true 7 g6) <|
 kD0 (oSt 7 g2 g43) <|
 kD p3 (oMov (ci 0)) <|
 kRet,
 (rS [.cell s2 true 7, .tmp s3])⟩
/-- (*wimple/neg.Negs).Put -/
noncomputable def k163 : FnK := ⟨kD p3 (oBox g0) <|
 kD p4 (oBox g1) <|
 kD p5 (oBox g2) <|
 kD p6 (oMov (ci 0)) <|
 kSeq (kBlock 0 <|
 kD p10 (oLd false 1 g3) <|
 kD p11 (oPs (.eqx false .p (.t s10) (.k (.ref .nilptr)))) <|
 kD p9 (oMov g11) <|
 kCond g9 (kD p6 (oMov (ci 1)) <|
 kRet) <|
 kD p13 (oFld 0 g4) <|
 kD p14 (oLd false 1 g13) <|
 kCall p15 (cF 75 (aC g14 aN)) <|
 kD p16 (oNot g15) <|
 kD p17 (oMov g16) <|
 kD p18 (oG g17 false (oFld 1 g4)) <|
 kD p19 (oG g17 false (oLd false 1 g18)) <|
 kD p20 (oG g17 false (o_lss g19 (ci 0))) <|
 kD p21 (oPick g17 (kV (.bool true)) g20) <|
 kD p22 (oMov g21) <|
 kD p23 (oG g22 false (oFld 1 g4)) <|
 kD p24 (oG g22 false (oLd false 1 g23)) <|
 kD p25 (oG g22 false (o_gtr g24 (ci 65535))) <|
 kD p26 (oPick g22 (kV (.bool true)) g25) <|
 kD p27 (oMov g26) <|
 kD p28 (oG g27 false (oFld 2 g4)) <|
 kD p29 (oG g27 false (oLd false 1 g28)) <|
 kD p30 (oG g27 false (oLd false 1 g5)) <|
 kD p31 (oG g27 false (o_leq g29 g30)) <|
 kD p32 (oPick g27 (kV (.bool true)) g31) <|
 kD p33 (oMov g32) <|
 kD p34 (oG g33 false (oLd false 1 g5)) <|
 kD p35 (oG g33 false (o_lss g34 (ci 0))) <|
 kD p36 (oPick g33 (kV (.bool true)) g35) <|
 kD p37 (oMov g36) <|
 kD p38 (oG g37 false (oLd false 1 g5)) <|
 kD p39 (oG g37 false (o_gtr g38 (ci 1099511627776))) <|
 kD p40 (oPick g37 (kV (.bool true)) g39) <|
 kD p12 (oMov g40) <|
 kCond g12 (kD p6 (oMov (ci 1400)) <|
 kRet) <|
 kEnd) <|
 kD p41 (oFld 0 g4) <|
 kD p42 (oLd false 1 g41) <|
 kD p44 (oFld 1 g4) <|
 kD p45 (oLd false 1 g44) <|
 kD p7 (oAlloc [(.str []), (vi 0)]) <|
 kCall p43 (cF 77 (aC g42 aN)) <|
 kChk g45 (oLd false 1 g44) <|
 kD p46 (oBuild [(.str []), (vi 0)] (bC 0 1 g43 (bC 1 1 g45 bN))) <|
 kD0 (oSt 2 g7 g46) <|
 kD p47 (oLd false 1 g3) <|
 kD p48 (oNil g47) <|
 kD p49 (oFld 1 g48) <|
 kD p50 (oLd false 1 g49) <|
 kD p51 (oPs (.mkf 215 [] [(.t s7), (.t s5)])) <|
 kCall p52 (cF 214 (aC g50 (aC g51 aN))) <|
 kSeq (kD p53 (oLd false 1 g3) <|
 kD p54 (oNil g53) <|
 kD p55 (oFld 1 g54) <|
 kD p56 (oLd false 1 g55) <|
 kD p57 (oRs (.lenM (.t s56))) <|
 kD p58 (oLd false 1 g3) <|
 kD p59 (oNil g58) <|
 kD p60 (oFld 0 g59) <|
 kD p61 (oLd false 1 g60) <|
 kD p62 (o_geq g57 g61) <|
 kCond g62 (kD p63 (oLd false 1 g3) <|
 kCall p64 (cF 216 (aC g63 aN)) <|
 kD p8 (oMov g64) <|
 kD p65 (oLd false 1 g3) <|
 kD p66 (oNil g65) <|
 kD p67 (oFld 1 g66) <|
 kD p68 (oLd false 1 g67) <|
 kD p69 (oMov g8) <|
 kD p70 (oPs (.mkf 218 [] [(.t s3)])) <|
 kCall p71 (cF 217 (aC g69 (aC g70 aN))) <|
 kChk g68 (oLd false 1 g67) <|
 kChk g65 (oLd false 1 g3) <|
 kD0 (oEs (.del ⟨true, [.str, (.int .i64)]⟩ (.t s68) (.t s71))) <|
 kEnd) <|
 kEnd) <|
 kD p72 (oLd false 1 g3) <|
 kD p73 (oNil g72) <|
 kD p74 (oFld 1 g73) <|
 kD p75 (oLd false 1 g74) <|
 kD p76 (oLd true 2 g7) <|
 kD p77 (oFld 2 g4) <|
 kD p78 (oLd false 1 g77) <|
 kD0 (oEs (.mup ⟨true, [.str, (.int .i64)]⟩ (.t s75) (.t s76) (.t s78))) <|
 kD p6 (oMov (ci 0)) <|
 kRet,
 (r1 g6)⟩
/-- wimple/wimpleref1.May -/
noncomputable def k164 : FnK := ⟨kD p2 (oMov (kV (.bool false))) <|
 kD p6 (oMov g0) <|
 kCall p7 (cF 219 (aC g6 aN)) <|
 kD p5 (oMov g7) <|
 kD p8 (oExt g5 0) <|
 kD p9 (oExt g5 1) <|
 kD p3 (oMov g8) <|
 kD p4 (oMov g9) <|
 kD p10 (oMov g4) <|
 kD p2 (oMov g10) <|
 kRet,
 (r1 g2)⟩
/-- wimple/wimpleref4.short -/
noncomputable def k165 : FnK := ⟨kD p2 (oMov (kV (.bool false))) <|
 kD p3 (oMov g0) <|
 kD p4 (o_geq g3 (ci 0)) <|
 kD p5 (oMov g4) <|
 kD p6 (oG g5 true (oMov g0)) <|
 kD p7 (oG g5 true (o_leq g6 (ci 65535))) <|
 kD p8 (oPick g5 g7 (kV (.bool false))) <|
 kD p2 (oMov g8) <|
 kRet,
 (r1 g2)⟩
/-- wimple/wimpleref4.rrMay -/
noncomputable def k166 : FnK := ⟨kD p1 (oBox g0) <|
 kD p2 (oMov (kV (.bool false))) <|
 kD p3 (oFld 0 g1) <|
 kD p4 (oLd false 1 g3) <|
 kCall p5 (cF 164 (aC g4 aN)) <|
 kD p6 (oMov g5) <|
 kD p7 (oG g6 true (oFld 1 g1)) <|
 kD p8 (oG g6 true (oLd false 1 g7)) <|
 kCall p9 (cG g6 true (cF 165 (aC g8 aN))) <|
 kD p10 (oPick g6 g9 (kV (.bool false))) <|
 kD p11 (oMov g10) <|
 kD p12 (oG g11 true (oFld 1 g1)) <|
 kD p13 (oG g11 true (oLd false 1 g12)) <|
 kD p14 (oG g11 true (o_gtr g13 (ci 0))) <|
 kD p15 (oPick g11 g14 (kV (.bool false))) <|
 kD p16 (oMov g15) <|
 kD p17 (oG g16 true (oFld 2 g1)) <|
 kD p18 (oG g16 true (oLd false 1 g17)) <|
 kCall p19 (cG g16 true (cF 165 (aC g18 aN))) <|
 kD p20 (oPick g16 g19 (kV (.bool false))) <|
 kD p21 (oMov g20) <|
 kD p22 (oG g21 true (oFld 3 g1)) <|
 kD p23 (oG g21 true (oLd false 1 g22)) <|
 kCall p24 (cG g21 true (cF 220 (aC g23 aN))) <|
 kD p25 (oPick g21 g24 (kV (.bool false))) <|
 kD p26 (oMov g25) <|
 kD p27 (oG g26 true (oFld 1 g1)) <|
 kD p28 (oG g26 true (oLd false 1 g27)) <|
 kD p29 (oG g26 true (oFld 4 g1)) <|
 kD p30 (oG g26 true (oLd false 1 g29)) <|
 kCall p31 (cG g26 true (cF 172 (aC g28 (aC g30 aN)))) <|
 kD p32 (oPick g26 g31 (kV (.bool false))) <|
 kD p2 (oMov g32) <|
 kRet,
 (r1 g2)⟩
/-- wimple/wimpleref4.bit -/
noncomputable def k167 : FnK := ⟨kD p4 (oMov (ci 0)) <|
 kSeq (kD p5 (oMov g0) <|
 kCond g5 (kD p6 (oMov g1) <|
 kD p7 (o_shl (ci 1) g6) <|
 kD p4 (oMov g7) <|
 kRet) <|
 kEnd) <|
 kD p4 (oMov (ci 0)) <|
 kRet,
 (r1 g4)⟩
/-- (*wimple/wimpleref4.Writer).place -/
noncomputable def k168 : FnK := ⟨kD p4 (oMov (ci 0)) <|
 kSeq (kD p5 (oMov (ci 0)) <|
 kBlock 0 <|
 kLoop <|
 kSeq (kD p6 (oMov g5) <|
 kD p7 (oMov g0) <|
 kD p8 (oNil g7) <|
 kD p9 (oFld 1 g8) <|
 kD p10 (oLd false 1 g9) <|
 kD p11 (oLenS g10) <|
 kD p12 (o_lss g6 g11) <|
 kCond g12 (kEnd) <|
 kExit 0) <|
 kSeq (kBlock 1 <|
 kD p15 (oMov g0) <|
 kD p16 (oNil g15) <|
 kD p17 (oFld 1 g16) <|
 kD p18 (oLd false 1 g17) <|
 kD p19 (oMov g5) <|
 kD p20 (oIdx 2 g18 g19) <|
 kD p21 (oFld 0 g20) <|
 kD p22 (oLd false 1 g21) <|
 kD p23 (oMov g1) <|
 kD p24 (o_eql g22 g23) <|
 kCond g24 (kD p25 (oMov g0) <|
 kD p26 (oNil g25) <|
 kD p27 (oFld 1 g26) <|
 kD p28 (oLd false 1 g27) <|
 kD p29 (oMov g5) <|
 kD p30 (oIdx 2 g28 g29) <|
 kD p31 (oFld 1 g30) <|
 kD p32 (oLd false 1 g31) <|
 kD p4 (oMov g32) <|
 kRet) <|
 kEnd) <|
 kD p13 (oMov g5) <|
 kD p14 (o_add g13 (ci 1)) <|
 kD p5 (oMov g14) <|
 kEnd) <|
 kD p4 (oMov (kV (.int .i64 (.c (.negSucc 0))))) <|
 kRet,
 (r1 g4)⟩
/-- wimple/wimpleref4.DataMay -/
noncomputable def k172 : FnK := ⟨kD p4 (oMov (kV (.bool false))) <|
 kSeq (kD p7 (oMov g0) <|
 kD p8 (o_lss g7 (ci 1)) <|
 kD p9 (oMov g8) <|
 kD p10 (oG g9 false (oMov g0)) <|
 kD p11 (oG g9 false (o_gtr g10 (ci 65535))) <|
 kD p12 (oPick g9 (kV (.bool true)) g11) <|
 kD p13 (oMov g12) <|
 kD p14 (oG g13 false (oMov g1)) <|
 kD p15 (oG g13 false (oLenT g14)) <|
 kD p16 (oG g13 false (o_gtr g15 (ci 65535))) <|
 kD p17 (oPick g13 (kV (.bool true)) g16) <|
 kCond g17 (kD p4 (oMov (kV (.bool false))) <|
 kRet) <|
 kEnd) <|
 kSeq (kD p18 (oMov g0) <|
 kBlock 0 <|
 kD p20 (o_eql g18 (ci 1)) <|
 kD p19 (oMov g20) <|
 kCond g19 (kD p21 (oMov g1) <|
 kD p22 (oLenT g21) <|
 kD p23 (o_eql g22 (ci 4)) <|
 kD p4 (oMov g23) <|
 kRet) <|
 kD p25 (o_eql g18 (ci 28)) <|
 kD p24 (oMov g25) <|
 kCond g24 (kD p26 (oMov g1) <|
 kD p27 (oLenT g26) <|
 kD p28 (o_eql g27 (ci 16)) <|
 kD p4 (oMov g28) <|
 kRet) <|
 kSeq (kD p30 (o_eql g18 (ci 2)) <|
 kD p29 (oMov g30) <|
 kCond g29 (kEnd) <|
 kD p31 (o_eql g18 (ci 5)) <|
 kD p29 (oMov g31) <|
 kCond g29 (kEnd) <|
 kD p32 (o_eql g18 (ci 12)) <|
 kD p29 (oMov g32) <|
 kEnd) <|
 kCond g29 (kD p33 (oMov g1) <|
 kCall p34 (cF 164 (aC g33 aN)) <|
 kD p4 (oMov g34) <|
 kRet) <|
 kD p36 (o_eql g18 (ci 15)) <|
 kD p35 (oMov g36) <|
 kCond g35 (kD p37 (oMov g1) <|
 kD p38 (oLenT g37) <|
 kD p39 (o_gtr g38 (ci 2)) <|
 kD p40 (oMov g39) <|
 kD p41 (oG g40 true (oMov g1)) <|
 kD p42 (oG g40 true (oSlc 0 g41 (some (ci 2)) none (oPs (.slc 0 (.t s41) (some (.k (vi 2))) none none)))) <|
 kCall p43 (cG g40 true (cF 164 (aC g42 aN))) <|
 kD p44 (oPick g40 g43 (kV (.bool false))) <|
 kD p4 (oMov g44) <|
 kRet) <|
 kD p46 (o_eql g18 (ci 6)) <|
 kD p45 (oMov g46) <|
 kCond g45 (kD p47 (oMov g1) <|
 kCall p48 (cF 225 (aC g47 (aC (ci 0) aN))) <|
 kD p5 (oMov g48) <|
 kSeq (kD p49 (oMov g5) <|
 kD p50 (o_lss g49 (ci 0)) <|
 kCond g50 (kD p4 (oMov (kV (.bool false))) <|
 kRet) <|
 kEnd) <|
 kD p51 (oMov g1) <|
 kD p52 (oMov g5) <|
 kCall p53 (cF 225 (aC g51 (aC g52 aN))) <|
 kD p6 (oMov g53) <|
 kD p54 (oMov g6) <|
 kD p55 (o_geq g54 (ci 0)) <|
 kD p56 (oMov g55) <|
 kD p57 (oG g56 true (oMov g1)) <|
 kD p58 (oG g56 true (oLenT g57)) <|
 kD p59 (oG g56 true (oMov g6)) <|
 kD p60 (oG g56 true (o_add g59 (ci 20))) <|
 kD p61 (oG g56 true (o_eql g58 g60)) <|
 kD p62 (oPick g56 g61 (kV (.bool false))) <|
 kD p4 (oMov g62) <|
 kRet) <|
 kD p64 (o_eql g18 (ci 16)) <|
 kD p63 (oMov g64) <|
 kCond g63 (kD p65 (oMov g1) <|
 kCall p66 (cF 226 (aC g65 aN)) <|
 kD p4 (oMov g66) <|
 kRet) <|
 kEnd) <|
 kD p4 (oMov (kV (.bool true))) <|
 kRet,
 (r1 g4)⟩
/-- (*wimple/neg.Negs).live -/
noncomputable def k173 : FnK := ⟨kD p8 (oMov (kV (.bool false))) <|
 kSeq (kD p11 (oMov g0) <|
 kD p12 (oPs (.eqx false .p (.t s11) (.k (.ref .nilptr)))) <|
 kCond g12 (kD p8 (oMov (kV (.bool false))) <|
 kRet) <|
 kEnd) <|
 kD p14 (oMov g0) <|
 kD p15 (oNil g14) <|
 kD p16 (oFld 1 g15) <|
 kD p17 (oLd false 1 g16) <|
 kD p18 (oMov g1) <|
 kD p20 (oMov g2) <|
 kCall p19 (cF 77 (aC g18 aN)) <|
 kChk g17 (oLd false 1 g16) <|
 kD p21 (oBuild [(.str []), (vi 0)] (bC 0 1 g19 (bC 1 1 g20 bN))) <|
 kD p22 (oRs (.lkp ⟨true, [.str, (.int .i64)]⟩ true (vi 0) (.t s17) (.t s21))) <|
 kD p13 (oMov g22) <|
 kD p23 (oExt g13 0) <|
 kD p24 (oExt g13 1) <|
 kD p9 (oMov g23) <|
 kD p10 (oMov g24) <|
 kD p25 (oMov g10) <|
 kD p26 (oMov g25) <|
 kD p27 (oG g26 true (oMov g3)) <|
 kD p28 (oG g26 true (oMov g9)) <|
 kD p29 (oG g26 true (o_lss g27 g28)) <|
 kD p30 (oPick g26 g29 (kV (.bool false))) <|
 kD p8 (oMov g30) <|
 kRet,
 (r1 g8)⟩
/-- slices.DeleteFunc[[]wimple/api.Binding,wimple/api.Binding] -/
noncomputable def k174 : FnK := ⟨kD p4 (oMov (kV (.ref .nilsl))) <|
 kD p8 (oMov g0) <|
 kD p9 (oMov g1) <|
 kCall p10 (cF 227 (aC g8 (aC g9 aN))) <|
 kD p5 (oMov g10) <|
 kSeq (kD p11 (oMov g5) <|
 kD p12 (o_eql g11 (kV (.int .i64 (.c (.negSucc 0))))) <|
 kCond g12 (kD p13 (oMov g0) <|
 kD p4 (oMov g13) <|
 kRet) <|
 kEnd) <|
 kSeq (kD p14 (oMov g5) <|
 kD p15 (o_add g14 (ci 1)) <|
 kD p6 (oMov g15) <|
 kBlock 0 <|
 kLoop <|
 kSeq (kD p16 (oMov g6) <|
 kD p17 (oMov g0) <|
 kD p18 (oLenS g17) <|
 kD p19 (o_lss g16 g18) <|
 kCond g19 (kEnd) <|
 kExit 0) <|
 kSeq (kBlock 1 <|
 kD p22 (oMov g0) <|
 kD p23 (oMov g6) <|
 kD p24 (oIdx 5 g22 g23) <|
 kD p25 (oLd true 5 g24) <|
 kD p7 (oAlloc [(.str []), (.str []), (vi 0), (.str []), (vi 0)]) <|
 kD0 (oSt 5 g7 g25) <|
 kD p26 (oMov g1) <|
 kD p27 (oLd true 5 g7) <|
 kCall p28 (cV g26 (aC g27 aN)) <|
 kD p29 (oNot g28) <|
 kCond g29 (kD p30 (oMov g0) <|
 kD p31 (oMov g5) <|
 kD p32 (oLd true 5 g7) <|
 kD p33 (oIdx 5 g30 g31) <|
 kD0 (oSt 5 g33 g32) <|
 kD p34 (oMov g5) <|
 kD p35 (o_add g34 (ci 1)) <|
 kD p5 (oMov g35) <|
 kEnd) <|
 kEnd) <|
 kD p20 (oMov g6) <|
 kD p21 (o_add g20 (ci 1)) <|
 kD p6 (oMov g21) <|
 kEnd) <|
 kD p36 (oMov g0) <|
 kD p37 (oMov g5) <|
 kD p38 (oSlc 5 g36 (some g37) none (oPs (.slc 5 (.t s36) (some (.t s37)) none none))) <|
 kD0 (oEs (.clr 5 [(.str []), (.str []), (vi 0), (.str []), (vi 0)] (.t s38))) <|
 kD p39 (oMov g0) <|
 kD p40 (oMov g5) <|
 kD p41 (oSlc 5 g39 none (some g40) (oPs (.slc 5 (.t s39) none (some (.t s40)) none))) <|
 kD p4 (oMov g41) <|
 kRet,
 (r1 g4)⟩
/-- (*wimple/cuts.cut).live$1 -/
noncomputable def k175 : FnK := ⟨kD p2 (oBox g0) <|
 kD p3 (oMov (kV (.bool false))) <|
 kD p4 (oLd false 1 g1) <|
 kD p5 (oFld 4 g2) <|
 kD p6 (oLd false 1 g5) <|
 kD p7 (o_geq g4 g6) <|
 kD p3 (oMov g7) <|
 kRet,
 (r1 g3)⟩
/-- wimple/name.Count -/
noncomputable def k176 : FnK := ⟨kD p2 (oMov (ci 0)) <|
 kD p6 (oMov g0) <|
 kCall p7 (cF 129 (aC g6 aN)) <|
 kD p5 (oMov g7) <|
 kD p8 (oExt g5 0) <|
 kD p9 (oExt g5 1) <|
 kD p3 (oMov g8) <|
 kD p4 (oMov g9) <|
 kSeq (kD p10 (oMov g4) <|
 kD p11 (oNot g10) <|
 kCond g11 (kD p2 (oMov (ci 0)) <|
 kRet) <|
 kEnd) <|
 kD p12 (oMov g3) <|
 kD p13 (oLenS g12) <|
 kD p14 (o_sub g13 (ci 1)) <|
 kD p2 (oMov g14) <|
 kRet,
 (r1 g2)⟩
/-- wimple/qmin.Size -/
noncomputable def k177 : FnK := ⟨kD p8 (oMov (ci 0)) <|
 kD p9 (oMov (ci 0)) <|
 kSeq (kD p12 (oMov g0) <|
 kD p13 (oMov g1) <|
 kD p14 (oMov g2) <|
 kD p15 (oMov g3) <|
 kD p16 (oBuild [(vi 0), (vi 0), (vi 0), (vi 0)] (bC 0 1 g12 (bC 1 1 g13 (bC 2 1 g14 (bC 3 1 g15 bN))))) <|
 kD p17 (oMov (ci 0)) <|
 kBlock 0 <|
 kLoop <|
 kD p18 (o_lss g17 (ci 4)) <|
 kSeq (kCond g18 (kEnd) <|
 kExit 0) <|
 kSeq (kBlock 1 <|
 kD p19 (oIdxv false 4 1 g16 g17) <|
 kD p11 (oMov g19) <|
 kD p20 (oMov g11) <|
 kD p21 (o_lss g20 (ci 0)) <|
 kD p22 (oMov g21) <|
 kD p23 (oG g22 false (oMov g11)) <|
 kD p24 (oG g22 false (o_gtr g23 (ci 1000))) <|
 kD p25 (oPick g22 (kV (.bool true)) g24) <|
 kCond g25 (kD p8 (oMov (ci 0)) <|
 kD p9 (oMov (ci 1700)) <|
 kRet) <|
 kEnd) <|
 kD p26 (o_add g17 (ci 1)) <|
 kD p17 (oMov g26) <|
 kEnd) <|
 kSeq (kBlock 2 <|
 kD p28 (oMov g1) <|
 kD p29 (o_eql g28 (ci 0)) <|
 kD p27 (oMov g29) <|
 kCond g27 (kD p8 (oMov (ci 0)) <|
 kD p9 (oMov (ci 1700)) <|
 kRet) <|
 kD p31 (oMov g0) <|
 kD p32 (oMov g3) <|
 kD p33 (o_lss g31 g32) <|
 kD p34 (oMov g33) <|
 kD p35 (oG g34 false (oMov g1)) <|
 kD p36 (oG g34 false (oMov g2)) <|
 kD p37 (oG g34 false (oMov g0)) <|
 kD p38 (oG g34 false (o_sub g36 g37)) <|
 kD p39 (oG g34 false (o_leq g35 g38)) <|
 kD p40 (oPick g34 (kV (.bool true)) g39) <|
 kD p30 (oMov g40) <|
 kCond g30 (kD p8 (oMov (ci 1)) <|
 kD p9 (oMov (ci 0)) <|
 kRet) <|
 kD p42 (oMov g0) <|
 kD p43 (oMov g2) <|
 kD p44 (o_geq g42 g43) <|
 kD p41 (oMov g44) <|
 kCond g41 (kD p45 (oMov g1) <|
 kD p8 (oMov g45) <|
 kD p9 (oMov (ci 0)) <|
 kRet) <|
 kEnd) <|
 kD p46 (oMov g1) <|
 kD p47 (oMov g2) <|
 kD p48 (o_add g46 g47) <|
 kD p49 (oMov g0) <|
 kD p50 (o_sub g48 g49) <|
 kD p51 (o_sub g50 (ci 1)) <|
 kD p52 (oMov g2) <|
 kD p53 (oMov g0) <|
 kD p54 (o_sub g52 g53) <|
 kD p55 (o_quo g51 g54) <|
 kD p8 (oMov g55) <|
 kD p9 (oMov (ci 0)) <|
 kRet,
 (r2 g8 g9)⟩
/-- wimple/rel.Last -/
noncomputable def k178 : FnK := ⟨kD p4 (oMov (kV (.str []))) <|
 kD p5 (oMov (ci 0)) <|
 kD p9 (oMov g0) <|
 kCall p10 (cF 129 (aC g9 aN)) <|
 kD p8 (oMov g10) <|
 kD p11 (oExt g8 0) <|
 kD p12 (oExt g8 1) <|
 kD p6 (oMov g11) <|
 kD p7 (oMov g12) <|
 kSeq (kD p13 (oMov g7) <|
 kD p14 (oNot g13) <|
 kD p15 (oMov g14) <|
 kD p16 (oG g15 false (oMov g1)) <|
 kD p17 (oG g15 false (o_lss g16 (ci 0))) <|
 kD p18 (oPick g15 (kV (.bool true)) g17) <|
 kD p19 (oMov g18) <|
 kD p20 (oG g19 false (oMov g1)) <|
 kD p21 (oG g19 false (oMov g6)) <|
 kD p22 (oG g19 false (oLenS g21)) <|
 kD p23 (oG g19 false (o_geq g20 g22)) <|
 kD p24 (oPick g19 (kV (.bool true)) g23) <|
 kCond g24 (kD p4 (oMov (kV (.str []))) <|
 kD p5 (oMov (ci 200)) <|
 kRet) <|
 kEnd) <|
 kD p25 (oMov g0) <|
 kD p26 (oMov g6) <|
 kD p27 (oMov g6) <|
 kD p28 (oLenS g27) <|
 kD p29 (o_sub g28 (ci 1)) <|
 kD p30 (oMov g1) <|
 kD p31 (o_sub g29 g30) <|
 kD p32 (oIdx 1 g26 g31) <|
 kD p33 (oLd false 1 g32) <|
 kD p34 (oSlc 0 g25 (some g33) none (oPs (.slc 0 (.t s25) (some (.t s33)) none none))) <|
 kD p4 (oMov g34) <|
 kD p5 (oMov (ci 0)) <|
 kRet,
 (r2 g4 g5)⟩
/-- wimple/pad.padded -/
noncomputable def k179 : FnK := ⟨kD p2 (oBox g0) <|
 kD p4 (oMov (kV (.str []))) <|
 kD p5 (oMov (ci 0)) <|
 kD p9 (oLd true 13 g2) <|
 kCall p10 (cF 229 (aC g9 (aC (kV (.int .i64 (.c (.negSucc 0)))) aN))) <|
 kCall p11 (cF 228 (aC g10 aN)) <|
 kD p8 (oMov g11) <|
 kD p12 (oExt g8 0) <|
 kD p13 (oExt g8 1) <|
 kD p6 (oMov g12) <|
 kD p7 (oMov g13) <|
 kSeq (kD p14 (oMov g7) <|
 kD p15 (o_neq g14 (ci 0)) <|
 kCond g15 (kD p16 (oMov g7) <|
 kD p4 (oMov (kV (.str []))) <|
 kD p5 (oMov g16) <|
 kRet) <|
 kEnd) <|
 kD p17 (oLd true 13 g2) <|
 kD p18 (oMov g6) <|
 kD p19 (oLenT g18) <|
 kD p20 (oMov g1) <|
 kCall p21 (cF 230 (aC g19 (aC g20 aN))) <|
 kChk g17 (oLd true 13 g2) <|
 kCall p22 (cF 229 (aC g17 (aC g21 aN))) <|
 kCall p23 (cF 228 (aC g22 aN)) <|
 kD p24 (oExt g23 0) <|
 kD p25 (oExt g23 1) <|
 kD p4 (oMov g24) <|
 kD p5 (oMov g25) <|
 kRet,
 (r2 g4 g5)⟩
/-- slices.ContainsFunc[[]wimple/api.Binding,wimple/api.Binding] -/
noncomputable def k180 : FnK := ⟨kD p4 (oMov (kV (.bool false))) <|
 kD p5 (oMov g0) <|
 kD p6 (oMov g1) <|
 kCall p7 (cF 227 (aC g5 (aC g6 aN))) <|
 kD p8 (o_geq g7 (ci 0)) <|
 kD p4 (oMov g8) <|
 kRet,
 (r1 g4)⟩
/-- wimple/serve.Wanting$1 -/
noncomputable def k181 : FnK := ⟨kD p2 (oBox g0) <|
 kD p3 (oMov (kV (.bool false))) <|
 kD p4 (oFld 1 g2) <|
 kD p5 (oLd false 1 g4) <|
 kD p6 (oLd false 1 g1) <|
 kCall p7 (cF 113 (aC g5 (aC g6 aN))) <|
 kD p3 (oMov g7) <|
 kRet,
 (r1 g3)⟩
/-- wimple/rel.fold -/
noncomputable def k183 : FnK := ⟨kD p2 (oMov (kV (.int .u8 (.c (.ofNat 0))))) <|
 kSeq (kD p3 (oMov g0) <|
 kD p4 (o_geq g3 (kV (.int .u8 (.c (.ofNat 65))))) <|
 kD p5 (oMov g4) <|
 kD p6 (oG g5 true (oMov g0)) <|
 kD p7 (oG g5 true (o_leq g6 (kV (.int .u8 (.c (.ofNat 90)))))) <|
 kD p8 (oPick g5 g7 (kV (.bool false))) <|
 kCond g8 (kD p9 (oMov g0) <|
 kD p10 (o_add g9 (kV (.int .u8 (.c (.ofNat 32))))) <|
 kD p2 (oMov g10) <|
 kRet) <|
 kEnd) <|
 kD p11 (oMov g0) <|
 kD p2 (oMov g11) <|
 kRet,
 (r1 g2)⟩
/-- wimple/octet.U16 -/
noncomputable def k184 : FnK := ⟨kD p4 (oMov (ci 0)) <|
 kD p5 (oMov (ci 0)) <|
 kD p6 (oMov (ci 0)) <|
 kD p7 (oMov g0) <|
 kD p8 (oMov g1) <|
 kCall p9 (cF 232 (aC g7 (aC g8 (aC (ci 2) aN)))) <|
 kD p10 (oExt g9 0) <|
 kD p11 (oExt g9 1) <|
 kD p12 (oExt g9 2) <|
 kD p4 (oMov g10) <|
 kD p5 (oMov g11) <|
 kD p6 (oMov g12) <|
 kRet,
 (r3 g4 g5 g6)⟩
/-- wimple/head.Get$1 -/
noncomputable def k185 : FnK := ⟨kD p3 (oMov (kV (.bool false))) <|
 kD p4 (oLd false 1 g1) <|
 kD p5 (oMov g0) <|
 kD p6 (o_shr g4 g5) <|
 kD p7 (o_and g6 (ci 1)) <|
 kD p8 (o_eql g7 (ci 1)) <|
 kD p3 (oMov g8) <|
 kRet,
 (r1 g3)⟩
/-- wimple/comp.Name -/
noncomputable def k186 : FnK := ⟨kD p4 (oMov (kV (.str []))) <|
 kD p5 (oMov (ci 0)) <|
 kD p6 (oMov (ci 0)) <|
 kSeq (kD p12 (oMov g1) <|
 kD p13 (o_lss g12 (ci 0)) <|
 kCond g13 (kD p4 (oMov (kV (.str []))) <|
 kD p5 (oMov (ci 0)) <|
 kD p6 (oMov (ci 500)) <|
 kRet) <|
 kEnd) <|
 kD p7 (oMov (kV (.ref .nilsl))) <|
 kD p14 (oMov g1) <|
 kD p8 (oMov g14) <|
 kD p9 (oMov (kV (.int .i64 (.c (.negSucc 0))))) <|
 kSeq (kBlock 0 <|
 kLoop <|
 kSeq (kD p15 (oMov g1) <|
 kD p16 (oMov g0) <|
 kD p17 (oLenT g16) <|
 kD p18 (o_lss g15 g17) <|
 kD p19 (oMov g18) <|
 kD p20 (oG g19 true (oMov g7)) <|
 kD p21 (oG g19 true (oLenS g20)) <|
 kD p22 (oG g19 true (o_lss g21 (ci 255))) <|
 kD p23 (oPick g19 g22 (kV (.bool false))) <|
 kCond g23 (kEnd) <|
 kExit 0) <|
 kBlock 1 <|
 kD p24 (oMov g0) <|
 kD p25 (oMov g1) <|
 kD p26 (oIdxs g24 g25) <|
 kD p27 (oCvti .i64 g26) <|
 kD p10 (oMov g27) <|
 kBlock 2 <|
 kD p29 (oMov g10) <|
 kD p30 (o_eql g29 (ci 0)) <|
 kD p28 (oMov g30) <|
 kCond g28 (kSeq (kD p31 (oMov g9) <|
 kD p32 (o_lss g31 (ci 0)) <|
 kCond g32 (kD p33 (oMov g1) <|
 kD p34 (o_add g33 (ci 1)) <|
 kD p9 (oMov g34) <|
 kEnd) <|
 kEnd) <|
 kD p35 (oMov g7) <|
 kD p36 (oBsl1 1 1 1 (lC (kV (.int .u8 (.c (.ofNat 0)))) lN)) <|
 kD p37 (oApp 1 1 g35 g36 (oEs (.app false false 1 1 (.t s35) (.t s36)))) <|
 kD p38 (oCvts g37 (oRs (.cvts (.t s37)))) <|
 kD p39 (oMov g9) <|
 kD p4 (oMov g38) <|
 kD p5 (oMov g39) <|
 kD p6 (oMov (ci 0)) <|
 kRet) <|
 kD p41 (oMov g10) <|
 kD p42 (o_leq g41 (ci 63)) <|
 kD p43 (oMov g42) <|
 kD p44 (oG g43 true (oMov g10)) <|
 kD p45 (oG g43 true (oMov g0)) <|
 kD p46 (oG g43 true (oLenT g45)) <|
 kD p47 (oG g43 true (oMov g1)) <|
 kD p48 (oG g43 true (o_sub g46 g47)) <|
 kD p49 (oG g43 true (o_lss g44 g48)) <|
 kD p50 (oPick g43 g49 (kV (.bool false))) <|
 kD p40 (oMov g50) <|
 kCond g40 (kD p51 (oMov g7) <|
 kD p52 (oMov g0) <|
 kD p53 (oMov g1) <|
 kD p54 (oMov g1) <|
 kD p55 (o_add g54 (ci 1)) <|
 kD p56 (oMov g10) <|
 kD p57 (o_add g55 g56) <|
 kD p58 (oSlc 0 g52 (some g53) (some g57) (oPs (.slc 0 (.t s52) (some (.t s53)) (some (.t s57)) none))) <|
 kD p59 (oApp 1 1 g51 g58 (oEs (.app false false 1 1 (.t s51) (.t s58)))) <|
 kD p7 (oMov g59) <|
 kD p60 (oMov g1) <|
 kD p61 (oMov g10) <|
 kD p62 (o_add (ci 1) g61) <|
 kD p63 (o_add g60 g62) <|
 kD p1 (oMov g63) <|
 kEnd) <|
 kD p65 (oMov g10) <|
 kD p66 (o_geq g65 (ci 192)) <|
 kD p67 (oMov g66) <|
 kD p68 (oG g67 true (oMov g1)) <|
 kD p69 (oG g67 true (o_add g68 (ci 1))) <|
 kD p70 (oG g67 true (oMov g0)) <|
 kD p71 (oG g67 true (oLenT g70)) <|
 kD p72 (oG g67 true (o_lss g69 g71)) <|
 kD p73 (oPick g67 g72 (kV (.bool false))) <|
 kD p64 (oMov g73) <|
 kCond g64 (kD p74 (oMov g10) <|
 kD p75 (o_and g74 (ci 63)) <|
 kD p76 (o_shl g75 (kV (.int .u64 (.c (.ofNat 8))))) <|
 kD p77 (oMov g0) <|
 kD p78 (oMov g1) <|
 kD p79 (o_add g78 (ci 1)) <|
 kD p80 (oIdxs g77 g79) <|
 kD p81 (oCvti .i64 g80) <|
 kD p82 (o_or g76 g81) <|
 kD p11 (oMov g82) <|
 kSeq (kD p83 (oMov g11) <|
 kD p84 (oMov g8) <|
 kD p85 (o_geq g83 g84) <|
 kCond g85 (kD p4 (oMov (kV (.str []))) <|
 kD p5 (oMov (ci 0)) <|
 kD p6 (oMov (ci 500)) <|
 kRet) <|
 kEnd) <|
 kSeq (kD p86 (oMov g9) <|
 kD p87 (o_lss g86 (ci 0)) <|
 kCond g87 (kD p88 (oMov g1) <|
 kD p89 (o_add g88 (ci 2)) <|
 kD p9 (oMov g89) <|
 kEnd) <|
 kEnd) <|
 kD p90 (oMov g11) <|
 kD p91 (oMov g11) <|
 kD p8 (oMov g90) <|
 kD p1 (oMov g91) <|
 kEnd) <|
 kD p4 (oMov (kV (.str []))) <|
 kD p5 (oMov (ci 0)) <|
 kD p6 (oMov (ci 500)) <|
 kRet) <|
 kD p4 (oMov (kV (.str []))) <|
 kD p5 (oMov (ci 0)) <|
 kD p6 (oMov (ci 500)) <|
 kRet,
 (r3 g4 g5 g6)⟩
/-- (*wimple/wire.reader).number -/
noncomputable def k187 : FnK := ⟨kD p4 (oMov (ci 0)) <|
 kD p9 (oMov g1) <|
 kD p10 (oMov g0) <|
 kD p11 (oNil g10) <|
 kD p12 (oFld 0 g11) <|
 kD p13 (oLd false 1 g12) <|
 kD p14 (oMov g0) <|
 kD p15 (oNil g14) <|
 kD p16 (oFld 1 g15) <|
 kD p17 (oLd false 1 g16) <|
 kCall p18 (cV g9 (aC g13 (aC g17 aN))) <|
 kD p8 (oMov g18) <|
 kD p19 (oExt g8 0) <|
 kD p20 (oExt g8 1) <|
 kD p21 (oExt g8 2) <|
 kD p5 (oMov g19) <|
 kD p6 (oMov g20) <|
 kD p7 (oMov g21) <|
 kSeq (kD p22 (oMov g0) <|
 kD p23 (oMov g0) <|
 kD p24 (oNil g23) <|
 kD p25 (oFld 2 g24) <|
 kD p26 (oLd false 1 g25) <|
 kD p27 (oMov g26) <|
 kD p28 (oG g27 false (oMov g7)) <|
 kD p29 (oG g27 false (o_neq g28 (ci 0))) <|
 kD p30 (oPick g27 (kV (.bool true)) g29) <|
 kD p31 (oNil g22) <|
 kD p32 (oFld 2 g31) <|
 kD0 (oSt 1 g32 g30) <|
 kD p33 (oMov g0) <|
 kD p34 (oNil g33) <|
 kD p35 (oFld 2 g34) <|
 kD p36 (oLd false 1 g35) <|
 kCond g36 (kD p4 (oMov (ci 0)) <|
 kRet) <|
 kEnd) <|
 kD p37 (oMov g0) <|
 kD p38 (oMov g6) <|
 kD p39 (oNil g37) <|
 kD p40 (oFld 1 g39) <|
 kD0 (oSt 1 g40 g38) <|
 kD p41 (oMov g5) <|
 kD p4 (oMov g41) <|
 kRet,
 (r1 g4)⟩
/-- wimple/octet.U32 -/
noncomputable def k188 : FnK := ⟨kD p4 (oMov (ci 0)) <|
 kD p5 (oMov (ci 0)) <|
 kD p6 (oMov (ci 0)) <|
 kD p7 (oMov g0) <|
 kD p8 (oMov g1) <|
 kCall p9 (cF 232 (aC g7 (aC g8 (aC (ci 4) aN)))) <|
 kD p10 (oExt g9 0) <|
 kD p11 (oExt g9 1) <|
 kD p12 (oExt g9 2) <|
 kD p4 (oMov g10) <|
 kD p5 (oMov g11) <|
 kD p6 (oMov g12) <|
 kRet,
 (r3 g4 g5 g6)⟩
/-- wimple/comp.Data -/
noncomputable def k189 : FnK := ⟨kD p8 (oMov (kV (.str []))) <|
 kD p9 (oMov (ci 0)) <|
 kSeq (kD p18 (oMov g1) <|
 kD p19 (o_lss g18 (ci 0)) <|
 kD p20 (oMov g19) <|
 kD p21 (oG g20 false (oMov g2)) <|
 kD p22 (oG g20 false (o_lss g21 (ci 0))) <|
 kD p23 (oPick g20 (kV (.bool true)) g22) <|
 kD p24 (oMov g23) <|
 kD p25 (oG g24 false (oMov g1)) <|
 kD p26 (oG g24 false (oMov g0)) <|
 kD p27 (oG g24 false (oLenT g26)) <|
 kD p28 (oG g24 false (o_gtr g25 g27)) <|
 kD p29 (oPick g24 (kV (.bool true)) g28) <|
 kD p30 (oMov g29) <|
 kD p31 (oG g30 false (oMov g2)) <|
 kD p32 (oG g30 false (oMov g0)) <|
 kD p33 (oG g30 false (oLenT g32)) <|
 kD p34 (oG g30 false (oMov g1)) <|
 kD p35 (oG g30 false (o_sub g33 g34)) <|
 kD p36 (oG g30 false (o_gtr g31 g35)) <|
 kD p37 (oPick g30 (kV (.bool true)) g36) <|
 kCond g37 (kD p8 (oMov (kV (.str []))) <|
 kD p9 (oMov (ci 500)) <|
 kRet) <|
 kEnd) <|
 kD p38 (oMov g1) <|
 kD p39 (oMov g2) <|
 kD p40 (o_add g38 g39) <|
 kD p10 (oMov g40) <|
 kD p41 (oMov g0) <|
 kD p42 (oMov g1) <|
 kD p43 (oMov g10) <|
 kD p44 (oSlc 0 g41 (some g42) (some g43) (oPs (.slc 0 (.t s41) (some (.t s42)) (some (.t s43)) none))) <|
 kD p11 (oMov g44) <|
 kSeq (kD p46 (oMov g3) <|
 kCall p47 (cF 233 (aC g46 aN)) <|
 kD p45 (oMov g47) <|
 kD p48 (oExt g45 0) <|
 kD p49 (oExt g45 1) <|
 kD p50 (oExt g45 2) <|
 kD p12 (oMov g48) <|
 kD p13 (oMov g49) <|
 kD p14 (oMov g50) <|
 kD p51 (oMov g13) <|
 kD p52 (o_gtr g51 (ci 0)) <|
 kCond g52 (kSeq (kD p53 (oMov g2) <|
 kD p54 (oMov g12) <|
 kD p55 (oMov g14) <|
 kD p56 (o_add g54 g55) <|
 kD p57 (o_lss g53 g56) <|
 kCond g57 (kD p8 (oMov (kV (.str []))) <|
 kD p9 (oMov (ci 500)) <|
 kRet) <|
 kEnd) <|
 kD p59 (oMov g0) <|
 kD p60 (oMov g1) <|
 kD p61 (oMov g12) <|
 kD p62 (o_add g60 g61) <|
 kD p63 (oMov g13) <|
 kCall p64 (cF 234 (aC g59 (aC g62 (aC g63 aN)))) <|
 kD p58 (oMov g64) <|
 kD p65 (oExt g58 0) <|
 kD p66 (oExt g58 1) <|
 kD p67 (oExt g58 2) <|
 kD p15 (oMov g65) <|
 kD p16 (oMov g66) <|
 kD p17 (oMov g67) <|
 kSeq (kD p68 (oMov g17) <|
 kD p69 (o_neq g68 (ci 0)) <|
 kD p70 (oMov g69) <|
 kD p71 (oG g70 false (oMov g16)) <|
 kD p72 (oG g70 false (oMov g10)) <|
 kD p73 (oG g70 false (oMov g14)) <|
 kD p74 (oG g70 false (o_sub g72 g73)) <|
 kD p75 (oG g70 false (o_neq g71 g74)) <|
 kD p76 (oPick g70 (kV (.bool true)) g75) <|
 kCond g76 (kD p8 (oMov (kV (.str []))) <|
 kD p9 (oMov (ci 500)) <|
 kRet) <|
 kEnd) <|
 kD p77 (oMov g0) <|
 kD p78 (oMov g1) <|
 kD p79 (oMov g1) <|
 kD p80 (oMov g12) <|
 kD p81 (o_add g79 g80) <|
 kD p82 (oSlc 0 g77 (some g78) (some g81) (oPs (.slc 0 (.t s77) (some (.t s78)) (some (.t s81)) none))) <|
 kD p83 (oMov g15) <|
 kD p84 (o_add g82 g83) <|
 kD p85 (oMov g0) <|
 kD p86 (oMov g16) <|
 kD p87 (oMov g10) <|
 kD p88 (oSlc 0 g85 (some g86) (some g87) (oPs (.slc 0 (.t s85) (some (.t s86)) (some (.t s87)) none))) <|
 kD p89 (o_add g84 g88) <|
 kD p11 (oMov g89) <|
 kEnd) <|
 kEnd) <|
 kSeq (kD p90 (oMov g3) <|
 kD p91 (oMov g11) <|
 kCall p92 (cF 206 (aC g90 (aC g91 aN))) <|
 kD p93 (oNot g92) <|
 kCond g93 (kD p8 (oMov (kV (.str []))) <|
 kD p9 (oMov (ci 500)) <|
 kRet) <|
 kEnd) <|
 kD p94 (oMov g11) <|
 kD p8 (oMov g94) <|
 kD p9 (oMov (ci 0)) <|
 kRet,
 (r2 g8 g9)⟩
/-- (*wimple/class.asking).failed -/
noncomputable def k190 : FnK := ⟨kD p2 (oMov (ci 0)) <|
 kSeq (kBlock 0 <|
 kD p4 (oMov g0) <|
 kCall p5 (cF 192 (aC g4 aN)) <|
 kD p6 (oNot g5) <|
 kD p3 (oMov g6) <|
 kCond g3 (kD p2 (oMov (ci 2)) <|
 kRet) <|
 kD p8 (oMov g0) <|
 kD p9 (oNil g8) <|
 kD p10 (oFld 0 g9) <|
 kD p11 (oLd false 1 g10) <|
 kD p12 (oNil g11) <|
 kD p13 (oFld 0 g12) <|
 kD p14 (oFld 8 g13) <|
 kD p15 (oLd false 1 g14) <|
 kD p16 (o_eql g15 (ci 3)) <|
 kD p7 (oMov g16) <|
 kCond g7 (kD p2 (oMov (ci 6)) <|
 kRet) <|
 kEnd) <|
 kD p2 (oMov (ci 0)) <|
 kRet,
 (r1 g2)⟩
/-- (*wimple/class.asking).found -/
noncomputable def k191 : FnK := ⟨kD p2 (oMov (ci 0)) <|
 kD p3 (oMov (kV (.bool false))) <|
 kSeq (kBlock 0 <|
 kD p5 (oMov g0) <|
 kCall p6 (cF 192 (aC g5 aN)) <|
 kD p7 (oNot g6) <|
 kD p4 (oMov g7) <|
 kCond g4 (kD p2 (oMov (ci 0)) <|
 kD p3 (oMov (kV (.bool false))) <|
 kRet) <|
 kD p9 (oMov g0) <|
 kD p10 (oMov g0) <|
 kD p11 (oNil g10) <|
 kD p12 (oFld 0 g11) <|
 kD p13 (oLd false 1 g12) <|
 kD p14 (oNil g13) <|
 kD p15 (oFld 10 g14) <|
 kD p16 (oLd false 1 g15) <|
 kD p17 (oMov g0) <|
 kD p18 (oNil g17) <|
 kD p19 (oFld 1 g18) <|
 kD p20 (oLd false 1 g19) <|
 kD p21 (oNil g20) <|
 kD p22 (oFld 1 g21) <|
 kD p23 (oLd false 1 g22) <|
 kCall p24 (cF 235 (aC g9 (aC g16 (aC g23 aN)))) <|
 kD p8 (oMov g24) <|
 kCond g8 (kD p2 (oMov (ci 4)) <|
 kD p3 (oMov (kV (.bool true))) <|
 kRet) <|
 kD p26 (oMov g0) <|
 kD p27 (oNil g26) <|
 kD p28 (oFld 1 g27) <|
 kD p29 (oLd false 1 g28) <|
 kD p30 (oNil g29) <|
 kD p31 (oFld 1 g30) <|
 kD p32 (oLd false 1 g31) <|
 kD p33 (o_neq g32 (ci 5)) <|
 kD p34 (oMov g33) <|
 kD p35 (oG g34 true (oMov g0)) <|
 kD p36 (oG g34 true (oMov g0)) <|
 kD p37 (oG g34 true (oNil g36)) <|
 kD p38 (oG g34 true (oFld 0 g37)) <|
 kD p39 (oG g34 true (oLd false 1 g38)) <|
 kD p40 (oG g34 true (oNil g39)) <|
 kD p41 (oG g34 true (oFld 10 g40)) <|
 kD p42 (oG g34 true (oLd false 1 g41)) <|
 kCall p43 (cG g34 true (cF 235 (aC g35 (aC g42 (aC (ci 5) aN))))) <|
 kD p44 (oPick g34 g43 (kV (.bool false))) <|
 kD p25 (oMov g44) <|
 kCond g25 (kD p2 (oMov (ci 5)) <|
 kD p3 (oMov (kV (.bool true))) <|
 kRet) <|
 kEnd) <|
 kD p2 (oMov (ci 0)) <|
 kD p3 (oMov (kV (.bool false))) <|
 kRet,
 (r2 g2 g3)⟩
/-- (*wimple/class.asking).full -/
noncomputable def k192 : FnK := ⟨kD p2 (oMov (kV (.bool false))) <|
 kD p3 (oMov g0) <|
 kD p4 (oNil g3) <|
 kD p5 (oFld 2 g4) <|
 kD p6 (oLd false 1 g5) <|
 kD p7 (oNil g6) <|
 kD p8 (oFld 0 g7) <|
 kD p9 (oLd false 1 g8) <|
 kD p10 (oMov g0) <|
 kD p11 (oNil g10) <|
 kD p12 (oFld 1 g11) <|
 kD p13 (oLd false 1 g12) <|
 kD p14 (oNil g13) <|
 kD p15 (oFld 0 g14) <|
 kD p16 (oLd false 1 g15) <|
 kCall p17 (cF 113 (aC g9 (aC g16 aN))) <|
 kD p18 (oMov g17) <|
 kD p19 (oG g18 true (oMov g0)) <|
 kD p20 (oG g18 true (oNil g19)) <|
 kD p21 (oG g18 true (oFld 2 g20)) <|
 kD p22 (oG g18 true (oLd false 1 g21)) <|
 kD p23 (oG g18 true (oNil g22)) <|
 kD p24 (oG g18 true (oFld 1 g23)) <|
 kD p25 (oG g18 true (oLd false 1 g24)) <|
 kD p26 (oG g18 true (oMov g0)) <|
 kD p27 (oG g18 true (oNil g26)) <|
 kD p28 (oG g18 true (oFld 1 g27)) <|
 kD p29 (oG g18 true (oLd false 1 g28)) <|
 kD p30 (oG g18 true (oNil g29)) <|
 kD p31 (oG g18 true (oFld 1 g30)) <|
 kD p32 (oG g18 true (oLd false 1 g31)) <|
 kD p33 (oG g18 true (o_eql g25 g32)) <|
 kD p34 (oPick g18 g33 (kV (.bool false))) <|
 kD p2 (oMov g34) <|
 kRet,
 (r1 g2)⟩
/-- (*wimple/class.asking).nothing -/
noncomputable def k193 : FnK := ⟨kD p1 (oBox g0) <|
 kD p2 (oMov (kV (.bool false))) <|
 kD p3 (oLd false 1 g1) <|
 kD p4 (oNil g3) <|
 kD p5 (oFld 0 g4) <|
 kD p6 (oLd false 1 g5) <|
 kD p7 (oNil g6) <|
 kD p8 (oFld 0 g7) <|
 kD p9 (oFld 3 g8) <|
 kD p10 (oLd false 1 g9) <|
 kD p11 (oMov g10) <|
 kD p12 (oG g11 false (oLd false 1 g1)) <|
 kD p13 (oG g11 false (oNil g12)) <|
 kD p14 (oG g11 false (oFld 0 g13)) <|
 kD p15 (oG g11 false (oLd false 1 g14)) <|
 kD p16 (oG g11 false (oNil g15)) <|
 kD p17 (oG g11 false (oFld 11 g16)) <|
 kD p18 (oG g11 false (oLd false 1 g17)) <|
 kD p19 (oG g11 false (oPs (.mkf 237 [] [(.t s1)]))) <|
 kCall p20 (cG g11 false (cF 236 (aC g18 (aC g19 aN)))) <|
 kD p21 (oPick g11 (kV (.bool true)) g20) <|
 kD p2 (oMov g21) <|
 kRet,
 (r1 g2)⟩
/-- wimple/rdata.Host -/
noncomputable def k194 : FnK := ⟨kD p4 (oMov (kV (.str []))) <|
 kD p5 (oMov (ci 0)) <|
 kSeq (kD p6 (oMov g0) <|
 kD p7 (oMov g1) <|
 kCall p8 (cF 206 (aC g6 (aC g7 aN))) <|
 kD p9 (oNot g8) <|
 kCond g9 (kD p4 (oMov (kV (.str []))) <|
 kD p5 (oMov (ci 400)) <|
 kRet) <|
 kEnd) <|
 kSeq (kD p10 (oMov g0) <|
 kBlock 0 <|
 kSeq (kD p12 (o_eql g10 (ci 2)) <|
 kD p11 (oMov g12) <|
 kCond g11 (kEnd) <|
 kD p13 (o_eql g10 (ci 5)) <|
 kD p11 (oMov g13) <|
 kCond g11 (kEnd) <|
 kD p14 (o_eql g10 (ci 12)) <|
 kD p11 (oMov g14) <|
 kEnd) <|
 kCond g11 (kD p15 (oMov g1) <|
 kD p4 (oMov g15) <|
 kD p5 (oMov (ci 0)) <|
 kRet) <|
 kD p17 (o_eql g10 (ci 15)) <|
 kD p16 (oMov g17) <|
 kCond g16 (kD p18 (oMov g1) <|
 kD p19 (oSlc 0 g18 (some (ci 2)) none (oPs (.slc 0 (.t s18) (some (.k (vi 2))) none none))) <|
 kD p4 (oMov g19) <|
 kD p5 (oMov (ci 0)) <|
 kRet) <|
 kEnd) <|
 kD p4 (oMov (kV (.str []))) <|
 kD p5 (oMov (ci 400)) <|
 kRet,
 (r2 g4 g5)⟩
/-- slices.SortFunc[[]string,string] -/
noncomputable def k195 : FnK := ⟨kD p5 (oMov g0) <|
 kD p6 (oLenS g5) <|
 kD p4 (oMov g6) <|
 kD p7 (oMov g0) <|
 kD p8 (oMov g4) <|
 kD p9 (oMov g4) <|
 kD p10 (oCvti .u64 g9) <|
 kCall p11 (cF 239 (aC g10 aN)) <|
 kD p12 (oMov g1) <|
 kCall p13 (cF 238 (aC g7 (aC (ci 0) (aC g8 (aC g11 (aC g12 aN)))))) <|
 kEnd,
 (rS [])⟩
/-- slices.Compact[[]string,string] -/
noncomputable def k196 : FnK := ⟨kD p2 (oMov (kV (.ref .nilsl))) <|
 kSeq (kD p6 (oMov g0) <|
 kD p7 (oLenS g6) <|
 kD p8 (o_lss g7 (ci 2)) <|
 kCond g8 (kD p9 (oMov g0) <|
 kD p2 (oMov g9) <|
 kRet) <|
 kEnd) <|
 kSeq (kD p3 (oMov (ci 1)) <|
 kBlock 0 <|
 kLoop <|
 kSeq (kD p10 (oMov g3) <|
 kD p11 (oMov g0) <|
 kD p12 (oLenS g11) <|
 kD p13 (o_lss g10 g12) <|
 kCond g13 (kEnd) <|
 kExit 0) <|
 kSeq (kBlock 1 <|
 kD p16 (oMov g0) <|
 kD p17 (oMov g3) <|
 kD p18 (oIdx 1 g16 g17) <|
 kD p19 (oLd false 1 g18) <|
 kD p20 (oMov g0) <|
 kD p21 (oMov g3) <|
 kD p22 (o_sub g21 (ci 1)) <|
 kD p23 (oIdx 1 g20 g22) <|
 kD p24 (oLd false 1 g23) <|
 kD p25 (o_eql g19 g24) <|
 kCond g25 (kD p26 (oMov g0) <|
 kD p27 (oMov g3) <|
 kD p28 (oSlc 1 g26 (some g27) none (oPs (.slc 1 (.t s26) (some (.t s27)) none none))) <|
 kD p4 (oMov g28) <|
 kSeq (kD p5 (oMov (ci 1)) <|
 kBlock 2 <|
 kLoop <|
 kSeq (kD p29 (oMov g5) <|
 kD p30 (oMov g4) <|
 kD p31 (oLenS g30) <|
 kD p32 (o_lss g29 g31) <|
 kCond g32 (kEnd) <|
 kExit 2) <|
 kSeq (kBlock 3 <|
 kD p35 (oMov g4) <|
 kD p36 (oMov g5) <|
 kD p37 (oIdx 1 g35 g36) <|
 kD p38 (oLd false 1 g37) <|
 kD p39 (oMov g4) <|
 kD p40 (oMov g5) <|
 kD p41 (o_sub g40 (ci 1)) <|
 kD p42 (oIdx 1 g39 g41) <|
 kD p43 (oLd false 1 g42) <|
 kD p44 (o_neq g38 g43) <|
 kCond g44 (kD p45 (oMov g0) <|
 kD p46 (oMov g3) <|
 kD p47 (oMov g4) <|
 kD p48 (oMov g5) <|
 kD p49 (oIdx 1 g47 g48) <|
 kD p50 (oLd false 1 g49) <|
 kD p51 (oIdx 1 g45 g46) <|
 kD0 (oSt 1 g51 g50) <|
 kD p52 (oMov g3) <|
 kD p53 (o_add g52 (ci 1)) <|
 kD p3 (oMov g53) <|
 kEnd) <|
 kEnd) <|
 kD p33 (oMov g5) <|
 kD p34 (o_add g33 (ci 1)) <|
 kD p5 (oMov g34) <|
 kEnd) <|
 kD p54 (oMov g0) <|
 kD p55 (oMov g3) <|
 kD p56 (oSlc 1 g54 (some g55) none (oPs (.slc 1 (.t s54) (some (.t s55)) none none))) <|
 kD0 (oEs (.clr 1 [(.str [])] (.t s56))) <|
 kD p57 (oMov g0) <|
 kD p58 (oMov g3) <|
 kD p59 (oSlc 1 g57 none (some g58) (oPs (.slc 1 (.t s57) none (some (.t s58)) none))) <|
 kD p2 (oMov g59) <|
 kRet) <|
 kEnd) <|
 kD p14 (oMov g3) <|
 kD p15 (o_add g14 (ci 1)) <|
 kD p3 (oMov g15) <|
 kEnd) <|
 kD p60 (oMov g0) <|
 kD p2 (oMov g60) <|
 kRet,
 (r1 g2)⟩
/-- wimple/cuts.hosts -/
noncomputable def k198 : FnK := ⟨kD p2 (oMov (kV (.ref .nilsl))) <|
 kD p3 (oMov (kV (.bool false))) <|
 kSeq (kD p8 (oMov g0) <|
 kD p9 (oLenS g8) <|
 kD p10 (o_lss g9 (ci 1)) <|
 kD p11 (oMov g10) <|
 kD p12 (oG g11 false (oMov g0)) <|
 kD p13 (oG g11 false (oLenS g12)) <|
 kD p14 (oG g11 false (o_gtr g13 (ci 8))) <|
 kD p15 (oPick g11 (kV (.bool true)) g14) <|
 kCond g15 (kD p2 (oMov (kV (.ref .nilsl))) <|
 kD p3 (oMov (kV (.bool false))) <|
 kRet) <|
 kEnd) <|
 kD p4 (oMov (kV (.ref .nilsl))) <|
 kSeq (kD p16 (oMov g0) <|
 kD p17 (oLenS g16) <|
 kD p18 (oMov (ci 0)) <|
 kBlock 0 <|
 kLoop <|
 kD p19 (o_lss g18 g17) <|
 kSeq (kCond g19 (kEnd) <|
 kExit 0) <|
 kSeq (kBlock 1 <|
 kD p20 (oIdx 1 g16 g18) <|
 kD p21 (oLd false 1 g20) <|
 kD p6 (oMov g21) <|
 kD p22 (oMov g6) <|
 kCall p23 (cF 77 (aC g22 aN)) <|
 kD p7 (oMov g23) <|
 kSeq (kD p24 (oMov g7) <|
 kD p25 (o_eql g24 (kV (.str []))) <|
 kD p26 (oMov g25) <|
 kD p27 (oG g26 false (oMov g4)) <|
 kD p28 (oG g26 false (oMov g7)) <|
 kCall p29 (cG g26 false (cF 78 (aC g27 (aC g28 aN)))) <|
 kD p30 (oPick g26 (kV (.bool true)) g29) <|
 kCond g30 (kD p2 (oMov (kV (.ref .nilsl))) <|
 kD p3 (oMov (kV (.bool false))) <|
 kRet) <|
 kEnd) <|
 kD p31 (oMov g4) <|
 kD p32 (oMov g7) <|
 kD p33 (oBsl1 0 1 1 (lC g32 lN)) <|
 kD p34 (oApp 0 1 g31 g33 (oEs (.app false false 0 1 (.t s31) (.t s33)))) <|
 kD p4 (oMov g34) <|
 kEnd) <|
 kD p35 (o_add g18 (ci 1)) <|
 kD p18 (oMov g35) <|
 kEnd) <|
 kD p36 (oMov g4) <|
 kD p2 (oMov g36) <|
 kD p3 (oMov (kV (.bool true))) <|
 kRet,
 (r2 g2 g3)⟩
/-- wimple/cuts.lasts -/
noncomputable def k199 : FnK := ⟨kD p4 (oMov (ci 0)) <|
 kD p5 (oMov g0) <|
 kD p6 (oMov g1) <|
 kD p7 (oPs (.minI (.t s6) [(.k (vi 86400))])) <|
 kD p8 (oPs (.maxI (.k (vi 1)) [(.t s7)])) <|
 kD p9 (o_add g5 g8) <|
 kD p4 (oMov g9) <|
 kRet,
 (r1 g4)⟩
/-- wimple/rdata.May -/
noncomputable def k206 : FnK := ⟨kD p4 (oMov (kV (.bool false))) <|
 kSeq (kD p5 (oMov g0) <|
 kD p6 (o_lss g5 (ci 1)) <|
 kD p7 (oMov g6) <|
 kD p8 (oG g7 false (oMov g0)) <|
 kD p9 (oG g7 false (o_gtr g8 (ci 65535))) <|
 kD p10 (oPick g7 (kV (.bool true)) g9) <|
 kD p11 (oMov g10) <|
 kD p12 (oG g11 false (oMov g1)) <|
 kD p13 (oG g11 false (oLenT g12)) <|
 kD p14 (oG g11 false (o_gtr g13 (ci 65535))) <|
 kD p15 (oPick g11 (kV (.bool true)) g14) <|
 kCond g15 (kD p4 (oMov (kV (.bool false))) <|
 kRet) <|
 kEnd) <|
 kSeq (kD p16 (oMov g0) <|
 kBlock 0 <|
 kD p18 (o_eql g16 (ci 1)) <|
 kD p17 (oMov g18) <|
 kCond g17 (kD p19 (oMov g1) <|
 kD p20 (oLenT g19) <|
 kD p21 (o_eql g20 (ci 4)) <|
 kD p4 (oMov g21) <|
 kRet) <|
 kD p23 (o_eql g16 (ci 28)) <|
 kD p22 (oMov g23) <|
 kCond g22 (kD p24 (oMov g1) <|
 kD p25 (oLenT g24) <|
 kD p26 (o_eql g25 (ci 16)) <|
 kD p4 (oMov g26) <|
 kRet) <|
 kSeq (kD p28 (o_eql g16 (ci 2)) <|
 kD p27 (oMov g28) <|
 kCond g27 (kEnd) <|
 kD p29 (o_eql g16 (ci 5)) <|
 kD p27 (oMov g29) <|
 kCond g27 (kEnd) <|
 kD p30 (o_eql g16 (ci 12)) <|
 kD p27 (oMov g30) <|
 kEnd) <|
 kCond g27 (kD p31 (oMov g1) <|
 kCall p32 (cF 75 (aC g31 aN)) <|
 kD p4 (oMov g32) <|
 kRet) <|
 kD p34 (o_eql g16 (ci 15)) <|
 kD p33 (oMov g34) <|
 kCond g33 (kD p35 (oMov g1) <|
 kD p36 (oLenT g35) <|
 kD p37 (o_geq g36 (ci 2)) <|
 kD p38 (oMov g37) <|
 kD p39 (oG g38 true (oMov g1)) <|
 kD p40 (oG g38 true (oSlc 0 g39 (some (ci 2)) none (oPs (.slc 0 (.t s39) (some (.k (vi 2))) none none)))) <|
 kCall p41 (cG g38 true (cF 75 (aC g40 aN))) <|
 kD p42 (oPick g38 g41 (kV (.bool false))) <|
 kD p4 (oMov g42) <|
 kRet) <|
 kD p44 (o_eql g16 (ci 6)) <|
 kD p43 (oMov g44) <|
 kCond g43 (kD p45 (oMov g1) <|
 kCall p46 (cF 242 (aC g45 aN)) <|
 kD p4 (oMov g46) <|
 kRet) <|
 kD p48 (o_eql g16 (ci 16)) <|
 kD p47 (oMov g48) <|
 kCond g47 (kD p49 (oMov g1) <|
 kCall p50 (cF 243 (aC g49 aN)) <|
 kD p4 (oMov g50) <|
 kRet) <|
 kEnd) <|
 kD p4 (oMov (kV (.bool true))) <|
 kRet,
 (r1 g4)⟩
/-- slices.Sort[[]string,string] -/
noncomputable def k207 : FnK := ⟨kD p3 (oMov g0) <|
 kD p4 (oLenS g3) <|
 kD p2 (oMov g4) <|
 kD p5 (oMov g0) <|
 kD p6 (oMov g2) <|
 kD p7 (oMov g2) <|
 kD p8 (oCvti .u64 g7) <|
 kCall p9 (cF 239 (aC g8 aN)) <|
 kCall p10 (cF 244 (aC g5 (aC (ci 0) (aC g6 (aC g9 aN))))) <|
 kEnd,
 (rS [])⟩
/-- wimple/store.may -/
noncomputable def k208 : FnK := ⟨kD p4 (oMov (kV (.bool false))) <|
 kD p5 (oMov g0) <|
 kD p6 (oNil g5) <|
 kD p7 (oFld 0 g6) <|
 kD p8 (oFld 0 g7) <|
 kD p9 (oLd false 1 g8) <|
 kCall p10 (cF 75 (aC g9 aN)) <|
 kD p11 (oMov g10) <|
 kD p12 (oG g11 true (oMov g0)) <|
 kD p13 (oG g11 true (oNil g12)) <|
 kD p14 (oG g11 true (oFld 0 g13)) <|
 kD p15 (oG g11 true (oFld 1 g14)) <|
 kD p16 (oG g11 true (oLd false 1 g15)) <|
 kD p17 (oG g11 true (o_geq g16 (ci 1))) <|
 kD p18 (oPick g11 g17 (kV (.bool false))) <|
 kD p19 (oMov g18) <|
 kD p20 (oG g19 true (oMov g0)) <|
 kD p21 (oG g19 true (oNil g20)) <|
 kD p22 (oG g19 true (oFld 0 g21)) <|
 kD p23 (oG g19 true (oFld 1 g22)) <|
 kD p24 (oG g19 true (oLd false 1 g23)) <|
 kD p25 (oG g19 true (o_leq g24 (ci 65535))) <|
 kD p26 (oPick g19 g25 (kV (.bool false))) <|
 kD p27 (oMov g26) <|
 kD p28 (oG g27 true (oMov g0)) <|
 kD p29 (oG g27 true (oNil g28)) <|
 kD p30 (oG g27 true (oFld 0 g29)) <|
 kD p31 (oG g27 true (oFld 3 g30)) <|
 kD p32 (oG g27 true (oLd false 1 g31)) <|
 kD p33 (oG g27 true (oLenS g32)) <|
 kD p34 (oG g27 true (o_gtr g33 (ci 0))) <|
 kD p35 (oPick g27 g34 (kV (.bool false))) <|
 kD p36 (oMov g35) <|
 kD p37 (oG g36 true (oMov g0)) <|
 kD p38 (oG g36 true (oNil g37)) <|
 kD p39 (oG g36 true (oFld 4 g38)) <|
 kD p40 (oG g36 true (oLd false 1 g39)) <|
 kD p41 (oG g36 true (o_geq g40 (ci 1))) <|
 kD p42 (oPick g36 g41 (kV (.bool false))) <|
 kD p43 (oMov g42) <|
 kD p44 (oG g43 true (oMov g0)) <|
 kD p45 (oG g43 true (oNil g44)) <|
 kD p46 (oG g43 true (oFld 4 g45)) <|
 kD p47 (oG g43 true (oLd false 1 g46)) <|
 kD p48 (oG g43 true (o_leq g47 (ci 3))) <|
 kD p49 (oPick g43 g48 (kV (.bool false))) <|
 kD p50 (oMov g49) <|
 kD p51 (oG g50 true (oMov g0)) <|
 kD p52 (oG g50 true (oNil g51)) <|
 kD p53 (oG g50 true (oFld 5 g52)) <|
 kD p54 (oG g50 true (oLd false 1 g53)) <|
 kD p55 (oG g50 true (oMov g1)) <|
 kD p56 (oG g50 true (o_gtr g54 g55)) <|
 kD p57 (oPick g50 g56 (kV (.bool false))) <|
 kD p58 (oMov g57) <|
 kD p59 (oG g58 true (oMov g1)) <|
 kD p60 (oG g58 true (o_geq g59 (ci 0))) <|
 kD p61 (oPick g58 g60 (kV (.bool false))) <|
 kD p62 (oMov g61) <|
 kD p63 (oG g62 true (oMov g1)) <|
 kD p64 (oG g62 true (o_leq g63 (ci 1099511627776))) <|
 kD p65 (oPick g62 g64 (kV (.bool false))) <|
 kD p4 (oMov g65) <|
 kRet,
 (r1 g4)⟩
/-- maps.DeleteFunc[map[wimple/store.key]wimple/api.Entry,wimple/store.key,wimple/api.Entry] -/
noncomputable def k209 : FnK := ⟨kD p6 (oMov g0) <|
 kD p7 (oEs (.rng (.t s6))) <|
 kBlock 0 <|
 kLoop <|
 kD p8 (oEs (.nxt (.t s7))) <|
 kD p9 (oExt g8 0) <|
 kSeq (kCond g9 (kEnd) <|
 kExit 0) <|
 kBlock 1 <|
 kD p10 (oRs (.ent (.t s7))) <|
 kD p11 (oExt g10 0) <|
 kD p12 (oExt g10 1) <|
 kD p4 (oAlloc [(.str []), (vi 0)]) <|
 kD p5 (oAlloc [(.str []), (vi 0), (vi 0), (.ref .nilsl), (vi 0), (vi 0)]) <|
 kD0 (oSt 2 g4 g11) <|
 kD0 (oSt 6 g5 g12) <|
 kD p13 (oMov g1) <|
 kD p14 (oLd true 2 g4) <|
 kD p15 (oLd true 6 g5) <|
 kCall p16 (cV g13 (aC g14 (aC g15 aN))) <|
 kCond g16 (kD p17 (oMov g0) <|
 kD p18 (oLd true 2 g4) <|
 kD0 (oEs (.del ⟨true, [.str, (.int .i64)]⟩ (.t s17) (.t s18))) <|
 kEnd) <|
 kEnd,
 (rS [])⟩
/-- (*wimple/store.Store).Put$1 -/
noncomputable def k210 : FnK := ⟨kD p4 (oBox g0) <|
 kD p5 (oBox g1) <|
 kD p6 (oMov (kV (.bool false))) <|
 kD p7 (oLd true 2 g4) <|
 kD p8 (oLd true 2 g2) <|
 kD p9 (oPs (.eqa false [.str, (.int .i64)] (.t s7) (.t s8))) <|
 kD p10 (oMov g9) <|
 kD p11 (oG g10 false (oLd false 1 g3)) <|
 kD p12 (oG g10 false (oFld 5 g5)) <|
 kD p13 (oG g10 false (oLd false 1 g12)) <|
 kD p14 (oG g10 false (o_geq g11 g13)) <|
 kD p15 (oPick g10 (kV (.bool true)) g14) <|
 kD p6 (oMov g15) <|
 kRet,
 (r1 g6)⟩
/-- wimple/rdata.Ends -/
noncomputable def k212 : FnK := ⟨kD p2 (oMov (ci 0)) <|
 kSeq (kD p3 (oMov (ci 0)) <|
 kBlock 0 <|
 kLoop <|
 kSeq (kD p4 (oMov g3) <|
 kD p5 (oMov g0) <|
 kD p6 (oLenT g5) <|
 kD p7 (o_lss g4 g6) <|
 kD p8 (oMov g7) <|
 kD p9 (oG g8 true (oMov g3)) <|
 kD p10 (oG g8 true (o_lss g9 (ci 255))) <|
 kD p11 (oPick g8 g10 (kV (.bool false))) <|
 kCond g11 (kEnd) <|
 kExit 0) <|
 kSeq (kBlock 1 <|
 kD p19 (oMov g0) <|
 kD p20 (oMov g3) <|
 kD p21 (oIdxs g19 g20) <|
 kD p22 (o_eql g21 (kV (.int .u8 (.c (.ofNat 0))))) <|
 kCond g22 (kSeq (kD p23 (oMov g0) <|
 kD p24 (oMov g3) <|
 kD p25 (o_add g24 (ci 1)) <|
 kD p26 (oSlc 0 g23 none (some g25) (oPs (.slc 0 (.t s23) none (some (.t s25)) none))) <|
 kCall p27 (cF 75 (aC g26 aN)) <|
 kD p28 (oNot g27) <|
 kCond g28 (kD p2 (oMov (kV (.int .i64 (.c (.negSucc 0))))) <|
 kRet) <|
 kEnd) <|
 kD p29 (oMov g3) <|
 kD p30 (o_add g29 (ci 1)) <|
 kD p2 (oMov g30) <|
 kRet) <|
 kEnd) <|
 kD p12 (oMov g3) <|
 kD p13 (oMov g0) <|
 kD p14 (oMov g3) <|
 kD p15 (oIdxs g13 g14) <|
 kD p16 (oCvti .i64 g15) <|
 kD p17 (o_add (ci 1) g16) <|
 kD p18 (o_add g12 g17) <|
 kD p3 (oMov g18) <|
 kEnd) <|
 kD p2 (oMov (kV (.int .i64 (.c (.negSucc 0))))) <|
 kRet,
 (r1 g2)⟩
/-- wimple/rdata.words -/
noncomputable def k213 : FnK := ⟨kD p2 (oAlloc [(.ref .nilptr), (.ref .nilptr), (.ref .nilptr), (.ref .nilptr), (.ref .nilptr)]) <|
 kD p3 (oMov g0) <|
 kD p4 (oNil g3) <|
 kD p5 (oFld 2 g4) <|
 kD p6 (oMov g0) <|
 kD p7 (oNil g6) <|
 kD p8 (oFld 3 g7) <|
 kD p9 (oMov g0) <|
 kD p10 (oNil g9) <|
 kD p11 (oFld 4 g10) <|
 kD p12 (oMov g0) <|
 kD p13 (oNil g12) <|
 kD p14 (oFld 5 g13) <|
 kD p15 (oMov g0) <|
 kD p16 (oNil g15) <|
 kD p17 (oFld 6 g16) <|
 kD p18 (oBuild [(.ref .nilptr), (.ref .nilptr), (.ref .nilptr), (.ref .nilptr), (.ref .nilptr)] (bC 0 1 g5 (bC 1 1 g8 (bC 2 1 g11 (bC 3 1 g14 (bC 4 1 g17 bN)))))) <|
 kD0 (oSt 5 g2 g18) <|
 kRet,
 (rS [.cell s2 true 5])⟩
/-- maps.DeleteFunc[map[wimple/neg.key]int,wimple/neg.key,int] -/
noncomputable def k214 : FnK := ⟨kD p6 (oMov g0) <|
 kD p7 (oEs (.rng (.t s6))) <|
 kBlock 0 <|
 kLoop <|
 kD p8 (oEs (.nxt (.t s7))) <|
 kD p9 (oExt g8 0) <|
 kSeq (kCond g9 (kEnd) <|
 kExit 0) <|
 kBlock 1 <|
 kD p10 (oRs (.ent (.t s7))) <|
 kD p11 (oExt g10 0) <|
 kD p12 (oExt g10 1) <|
 kD p4 (oAlloc [(.str []), (vi 0)]) <|
 kD0 (oSt 2 g4 g11) <|
 kD p5 (oMov g12) <|
 kD p13 (oMov g1) <|
 kD p14 (oLd true 2 g4) <|
 kD p15 (oMov g5) <|
 kCall p16 (cV g13 (aC g14 (aC g15 aN))) <|
 kCond g16 (kD p17 (oMov g0) <|
 kD p18 (oLd true 2 g4) <|
 kD0 (oEs (.del ⟨true, [.str, (.int .i64)]⟩ (.t s17) (.t s18))) <|
 kEnd) <|
 kEnd,
 (rS [])⟩
/-- wimple/wimpleref1.places -/
noncomputable def k219 : FnK := ⟨kD p2 (oMov (kV (.ref .nilsl))) <|
 kD p3 (oMov (kV (.bool false))) <|
 kD p4 (oMov (kV (.ref .nilsl))) <|
 kD p5 (oMov (ci 0)) <|
 kSeq (kBlock 0 <|
 kLoop <|
 kSeq (kD p7 (oMov g5) <|
 kD p8 (oMov g0) <|
 kD p9 (oLenT g8) <|
 kD p10 (o_lss g7 g9) <|
 kD p11 (oMov g10) <|
 kD p12 (oG g11 true (oMov g0)) <|
 kD p13 (oG g11 true (oLenT g12)) <|
 kD p14 (oG g11 true (o_leq g13 (ci 255))) <|
 kD p15 (oPick g11 g14 (kV (.bool false))) <|
 kCond g15 (kEnd) <|
 kExit 0) <|
 kBlock 1 <|
 kD p16 (oMov g0) <|
 kD p17 (oMov g5) <|
 kD p18 (oIdxs g16 g17) <|
 kD p19 (oCvti .i64 g18) <|
 kD p6 (oMov g19) <|
 kD p20 (oMov g4) <|
 kD p21 (oMov g5) <|
 kD p22 (oBsl1 0 1 1 (lC g21 lN)) <|
 kD p23 (oApp 0 1 g20 g22 (oEs (.app false false 0 1 (.t s20) (.t s22)))) <|
 kD p4 (oMov g23) <|
 kSeq (kD p24 (oMov g6) <|
 kD p25 (o_eql g24 (ci 0)) <|
 kCond g25 (kD p26 (oMov g4) <|
 kD p27 (oMov g5) <|
 kD p28 (o_add g27 (ci 1)) <|
 kD p29 (oMov g0) <|
 kD p30 (oLenT g29) <|
 kD p31 (o_eql g28 g30) <|
 kD p2 (oMov g26) <|
 kD p3 (oMov g31) <|
 kRet) <|
 kEnd) <|
 kSeq (kD p32 (oMov g6) <|
 kD p33 (o_gtr g32 (ci 63)) <|
 kCond g33 (kD p2 (oMov (kV (.ref .nilsl))) <|
 kD p3 (oMov (kV (.bool false))) <|
 kRet) <|
 kEnd) <|
 kD p34 (oMov g5) <|
 kD p35 (o_add g34 (ci 1)) <|
 kD p36 (oMov g6) <|
 kD p37 (o_add g35 g36) <|
 kD p5 (oMov g37) <|
 kEnd) <|
 kD p2 (oMov (kV (.ref .nilsl))) <|
 kD p3 (oMov (kV (.bool false))) <|
 kRet,
 (r2 g2 g3)⟩
/-- wimple/wimpleref4.wide -/
noncomputable def k220 : FnK := ⟨kD p2 (oMov (kV (.bool false))) <|
 kD p3 (oMov g0) <|
 kD p4 (o_geq g3 (ci 0)) <|
 kD p5 (oMov g4) <|
 kD p6 (oG g5 true (oMov g0)) <|
 kD p7 (oG g5 true (o_leq g6 (ci 4294967295))) <|
 kD p8 (oPick g5 g7 (kV (.bool false))) <|
 kD p2 (oMov g8) <|
 kRet,
 (r1 g2)⟩
/-- wimple/wimpleref4.whole -/
noncomputable def k225 : FnK := ⟨kD p4 (oMov (ci 0)) <|
 kSeq (kD p7 (oMov g1) <|
 kD p5 (oMov g7) <|
 kBlock 0 <|
 kLoop <|
 kSeq (kD p8 (oMov g5) <|
 kD p9 (oMov g0) <|
 kD p10 (oLenT g9) <|
 kD p11 (o_lss g8 g10) <|
 kCond g11 (kEnd) <|
 kExit 0) <|
 kSeq (kBlock 1 <|
 kD p14 (oMov g0) <|
 kD p15 (oMov g5) <|
 kD p16 (oIdxs g14 g15) <|
 kD p17 (oCvti .i64 g16) <|
 kD p6 (oMov g17) <|
 kSeq (kD p18 (oMov g6) <|
 kD p19 (o_eql g18 (ci 0)) <|
 kCond g19 (kSeq (kD p20 (oMov g0) <|
 kD p21 (oMov g1) <|
 kD p22 (oMov g5) <|
 kD p23 (o_add g22 (ci 1)) <|
 kD p24 (oSlc 0 g20 (some g21) (some g23) (oPs (.slc 0 (.t s20) (some (.t s21)) (some (.t s23)) none))) <|
 kCall p25 (cF 164 (aC g24 aN)) <|
 kCond g25 (kD p26 (oMov g5) <|
 kD p27 (o_add g26 (ci 1)) <|
 kD p4 (oMov g27) <|
 kRet) <|
 kEnd) <|
 kD p4 (oMov (kV (.int .i64 (.c (.negSucc 0))))) <|
 kRet) <|
 kEnd) <|
 kD p28 (oMov g5) <|
 kD p29 (oMov g6) <|
 kD p30 (o_add g28 g29) <|
 kD p5 (oMov g30) <|
 kEnd) <|
 kD p12 (oMov g5) <|
 kD p13 (o_add g12 (ci 1)) <|
 kD p5 (oMov g13) <|
 kEnd) <|
 kD p4 (oMov (kV (.int .i64 (.c (.negSucc 0))))) <|
 kRet,
 (r1 g4)⟩
/-- slices.IndexFunc[[]wimple/api.Binding,wimple/api.Binding] -/
noncomputable def k227 : FnK := ⟨kD p4 (oMov (ci 0)) <|
 kSeq (kD p6 (oMov g0) <|
 kD p7 (oLenS g6) <|
 kD p8 (oMov (ci 0)) <|
 kBlock 0 <|
 kLoop <|
 kD p9 (o_lss g8 g7) <|
 kSeq (kCond g9 (kEnd) <|
 kExit 0) <|
 kSeq (kBlock 1 <|
 kD p10 (oMov g8) <|
 kD p5 (oMov g10) <|
 kD p11 (oMov g1) <|
 kD p12 (oMov g0) <|
 kD p13 (oMov g5) <|
 kD p14 (oIdx 5 g12 g13) <|
 kD p15 (oLd true 5 g14) <|
 kCall p16 (cV g11 (aC g15 aN)) <|
 kCond g16 (kD p17 (oMov g5) <|
 kD p4 (oMov g17) <|
 kRet) <|
 kEnd) <|
 kD p18 (o_add g8 (ci 1)) <|
 kD p8 (oMov g18) <|
 kEnd) <|
 kD p4 (oMov (kV (.int .i64 (.c (.negSucc 0))))) <|
 kRet,
 (r1 g4)⟩
/-- wimple/wire.Put -/
noncomputable def k228 : FnK := ⟨kD p1 (oBox g0) <|
 kD p2 (oMov (kV (.str []))) <|
 kD p3 (oMov (ci 0)) <|
 kD p14 (oFld 0 g1) <|
 kD p15 (oLd true 9 g14) <|
 kD p16 (oFld 9 g1) <|
 kD p17 (oLd false 1 g16) <|
 kD p18 (oLenS g17) <|
 kD p19 (oFld 10 g1) <|
 kD p20 (oLd false 1 g19) <|
 kD p21 (oLenS g20) <|
 kD p22 (oFld 11 g1) <|
 kD p23 (oLd false 1 g22) <|
 kD p24 (oLenS g23) <|
 kD p25 (oFld 12 g1) <|
 kD p26 (oLd false 1 g25) <|
 kD p27 (oLenS g26) <|
 kD p28 (oBuild [(vi 0), (vi 0), (vi 0), (vi 0)] (bC 0 1 g18 (bC 1 1 g21 (bC 2 1 g24 (bC 3 1 g27 bN))))) <|
 kCall p29 (cF 250 (aC g15 (aC g28 aN))) <|
 kD p13 (oMov g29) <|
 kD p30 (oExt g13 0) <|
 kD p31 (oExt g13 1) <|
 kD p4 (oMov g30) <|
 kD p5 (oMov g31) <|
 kSeq (kD p32 (oMov g5) <|
 kD p33 (o_neq g32 (ci 0)) <|
 kD p34 (oMov g33) <|
 kCall p35 (cG g34 false (cF 251 (aC g1 aN))) <|
 kD p36 (oG g34 false (oNot g35)) <|
 kD p37 (oPick g34 (kV (.bool true)) g36) <|
 kCond g37 (kD p2 (oMov (kV (.str []))) <|
 kD p3 (oMov (ci 700)) <|
 kRet) <|
 kEnd) <|
 kCall p38 (cF 252 aN) <|
 kD p39 (oBuild [(.ref .nilptr), (.bool false)] (bC 0 1 g38 bN)) <|
 kD p40 (oBox g39) <|
 kD p6 (oMov g40) <|
 kD p41 (oMov g6) <|
 kD p42 (oMov g4) <|
 kCall p43 (cF 253 (aC g41 (aC g42 aN))) <|
 kSeq (kD p44 (oFld 9 g1) <|
 kD p45 (oLd false 1 g44) <|
 kD p46 (oLenS g45) <|
 kD p47 (oMov (ci 0)) <|
 kBlock 0 <|
 kLoop <|
 kD p48 (o_lss g47 g46) <|
 kSeq (kCond g48 (kEnd) <|
 kExit 0) <|
 kSeq (kBlock 1 <|
 kD p49 (oIdx 3 g45 g47) <|
 kD p50 (oLd true 3 g49) <|
 kD p8 (oAlloc [(.str []), (vi 0), (vi 0)]) <|
 kD0 (oSt 3 g8 g50) <|
 kD p51 (oMov g6) <|
 kD p52 (oFld 0 g8) <|
 kD p53 (oLd false 1 g52) <|
 kD p54 (oFld 1 g8) <|
 kD p55 (oLd false 1 g54) <|
 kD p56 (oFld 2 g8) <|
 kD p57 (oLd false 1 g56) <|
 kCall p58 (cF 254 (aC g51 (aC g53 (aC g55 (aC g57 aN))))) <|
 kEnd) <|
 kD p59 (o_add g47 (ci 1)) <|
 kD p47 (oMov g59) <|
 kEnd) <|
 kSeq (kD p60 (oFld 10 g1) <|
 kD p61 (oLd false 1 g60) <|
 kD p62 (oFld 11 g1) <|
 kD p63 (oLd false 1 g62) <|
 kD p64 (oFld 12 g1) <|
 kD p65 (oLd false 1 g64) <|
 kD p66 (oBuild [(.ref .nilsl), (.ref .nilsl), (.ref .nilsl)] (bC 0 1 g61 (bC 1 1 g63 (bC 2 1 g65 bN)))) <|
 kD p67 (oMov (ci 0)) <|
 kBlock 2 <|
 kLoop <|
 kD p68 (o_lss g67 (ci 3)) <|
 kSeq (kCond g68 (kEnd) <|
 kExit 2) <|
 kSeq (kBlock 3 <|
 kD p69 (oIdxv false 3 1 g66 g67) <|
 kD p10 (oMov g69) <|
 kD p70 (oMov g10) <|
 kD p71 (oLenS g70) <|
 kD p72 (oMov (ci 0)) <|
 kBlock 4 <|
 kLoop <|
 kD p73 (o_lss g72 g71) <|
 kSeq (kCond g73 (kEnd) <|
 kExit 4) <|
 kSeq (kBlock 5 <|
 kD p74 (oIdx 5 g70 g72) <|
 kD p75 (oLd true 5 g74) <|
 kD p12 (oAlloc [(.str []), (vi 0), (vi 0), (vi 0), (.str [])]) <|
 kD0 (oSt 5 g12 g75) <|
 kD p76 (oMov g6) <|
 kD p77 (oFld 0 g12) <|
 kD p78 (oLd false 1 g77) <|
 kD p79 (oFld 1 g12) <|
 kD p80 (oLd false 1 g79) <|
 kD p81 (oFld 2 g12) <|
 kD p82 (oLd false 1 g81) <|
 kCall p83 (cF 254 (aC g76 (aC g78 (aC g80 (aC g82 aN))))) <|
 kD p84 (oMov g6) <|
 kD p85 (oFld 3 g12) <|
 kD p86 (oLd false 1 g85) <|
 kD p88 (oFld 4 g12) <|
 kD p89 (oLd false 1 g88) <|
 kD p90 (oLenT g89) <|
 kD p93 (oFld 4 g12) <|
 kD p94 (oLd false 1 g93) <|
 kCall p87 (cF 255 (aC g86 aN)) <|
 kChk g94 (oLd false 1 g93) <|
 kChk g89 (oLd false 1 g88) <|
 kCall p91 (cF 256 (aC g90 aN)) <|
 kChk g94 (oLd false 1 g93) <|
 kD p92 (o_add g87 g91) <|
 kD p95 (o_add g92 g94) <|
 kCall p96 (cF 253 (aC g84 (aC g95 aN))) <|
 kEnd) <|
 kD p97 (o_add g72 (ci 1)) <|
 kD p72 (oMov g97) <|
 kEnd) <|
 kD p98 (o_add g67 (ci 1)) <|
 kD p67 (oMov g98) <|
 kEnd) <|
 kSeq (kD p99 (oMov g6) <|
 kD p100 (oNil g99) <|
 kD p101 (oFld 1 g100) <|
 kD p102 (oLd false 1 g101) <|
 kCond g102 (kD p2 (oMov (kV (.str []))) <|
 kD p3 (oMov (ci 701)) <|
 kRet) <|
 kEnd) <|
 kD p103 (oMov g6) <|
 kD p104 (oNil g103) <|
 kD p105 (oFld 0 g104) <|
 kD p106 (oLd false 1 g105) <|
 kCall p107 (cF 257 (aC g106 aN)) <|
 kD p2 (oMov g107) <|
 kD p3 (oMov (ci 0)) <|
 kRet,
 (r2 g2 g3)⟩
/-- wimple/pad.with -/
noncomputable def k229 : FnK := ⟨kD p2 (oBox g0) <|
 kD p4 (oAlloc [(vi 0), (.bool false), (vi 0), (.bool false), (.bool false), (.bool false), (.bool false), (vi 0), (vi 0), (.ref .nilsl), (.ref .nilsl), (.ref .nilsl), (.ref .nilsl)]) <|
 kD p8 (oBuild [(vi 0), (vi 0), (vi 0), (.bool false), (vi 0), (.ref .nilsl)] (bC 0 1 (ci 1232) bN)) <|
 kD p5 (oAlloc [(vi 0), (vi 0), (vi 0), (.bool false), (vi 0), (.ref .nilsl)]) <|
 kD0 (oSt 6 g5 g8) <|
 kSeq (kD p9 (oMov g1) <|
 kD p10 (o_geq g9 (ci 0)) <|
 kCond g10 (kD p11 (oMov g1) <|
 kD p12 (oAs (.mks false false 1 1 [(.int .u8 (.c (.ofNat 0)))] (.t s11) (.t s11))) <|
 kD p13 (oCvts g12 (oRs (.cvts (.t s12)))) <|
 kD p14 (oBuild [(vi 0), (.str [])] (bC 0 1 (ci 12) (bC 1 1 g13 bN))) <|
 kD p15 (oAs (.bsl false true 0 2 1 [(vi 0), (.str [])] [(0, (.t s14))])) <|
 kD p16 (oFld 5 g5) <|
 kD0 (oSt 1 g16 g15) <|
 kEnd) <|
 kEnd) <|
 kD p18 (oLd true 6 g5) <|
 kCall p19 (cF 258 (aC g18 aN)) <|
 kD p17 (oMov g19) <|
 kD p20 (oExt g17 0) <|
 kD p21 (oExt g17 1) <|
 kD p6 (oAlloc [(.str []), (vi 0), (vi 0), (vi 0), (.str [])]) <|
 kD0 (oSt 5 g6 g20) <|
 kD p7 (oMov g21) <|
 kD p22 (oFld 12 g2) <|
 kD p23 (oLd false 1 g22) <|
 kD p25 (oLd true 5 g6) <|
 kD p26 (oAs (.bsl false true 0 5 1 [(.str []), (vi 0), (vi 0), (vi 0), (.str [])] [(0, (.t s25))])) <|
 kD p24 (oApp 0 5 (kV (.ref .nilsl)) g23 (oEs (.app false true 0 5 (.k (.ref .nilsl)) (.t s23)))) <|
 kChk g25 (oLd true 5 g6) <|
 kD p27 (oApp 0 5 g24 g26 (oEs (.app false true 0 5 (.t s24) (.t s26)))) <|
 kD p28 (oFld 12 g2) <|
 kD0 (oSt 1 g28 g27) <|
 kD p29 (oLd true 13 g2) <|
 kD0 (oSt 13 g4 g29) <|
 kRet,
 (rS [.cell s4 true 13])⟩
/-- wimple/pad.Room -/
noncomputable def k230 : FnK := ⟨kD p4 (oMov (ci 0)) <|
 kSeq (kD p6 (oMov g0) <|
 kD p7 (o_lss g6 (ci 0)) <|
 kD p8 (oMov g7) <|
 kD p9 (oG g8 false (oMov g1)) <|
 kD p10 (oG g8 false (o_lss g9 (ci 1))) <|
 kD p11 (oPick g8 (kV (.bool true)) g10) <|
 kCond g11 (kD p4 (oMov (ci 0)) <|
 kRet) <|
 kEnd) <|
 kD p12 (oMov g1) <|
 kD p13 (oCvti .u64 g12) <|
 kD p5 (oMov g13) <|
 kD p14 (oMov g5) <|
 kD p15 (oMov g0) <|
 kD p16 (oCvti .u64 g15) <|
 kD p17 (o_add g16 (kV (.int .u64 (.c (.ofNat 4))))) <|
 kD p18 (oMov g5) <|
 kD p19 (o_rem g17 g18) <|
 kD p20 (o_sub g14 g19) <|
 kD p21 (oMov g5) <|
 kD p22 (o_rem g20 g21) <|
 kD p23 (oCvti .i64 g22) <|
 kD p4 (oMov g23) <|
 kRet,
 (r1 g4)⟩
/-- wimple/octet.number -/
noncomputable def k232 : FnK := ⟨kD p6 (oMov (ci 0)) <|
 kD p7 (oMov (ci 0)) <|
 kD p8 (oMov (ci 0)) <|
 kSeq (kD p11 (oMov g1) <|
 kD p12 (o_lss g11 (ci 0)) <|
 kD p13 (oMov g12) <|
 kD p14 (oG g13 false (oMov g1)) <|
 kD p15 (oG g13 false (oMov g0)) <|
 kD p16 (oG g13 false (oLenT g15)) <|
 kD p17 (oG g13 false (o_gtr g14 g16)) <|
 kD p18 (oPick g13 (kV (.bool true)) g17) <|
 kD p19 (oMov g18) <|
 kD p20 (oG g19 false (oMov g0)) <|
 kD p21 (oG g19 false (oLenT g20)) <|
 kD p22 (oG g19 false (oMov g1)) <|
 kD p23 (oG g19 false (o_sub g21 g22)) <|
 kD p24 (oG g19 false (oMov g2)) <|
 kD p25 (oG g19 false (o_lss g23 g24)) <|
 kD p26 (oPick g19 (kV (.bool true)) g25) <|
 kCond g26 (kD p6 (oMov (ci 0)) <|
 kD p7 (oMov (ci 0)) <|
 kD p8 (oMov (ci 300)) <|
 kRet) <|
 kEnd) <|
 kD p9 (oMov (ci 0)) <|
 kSeq (kD p27 (oMov g2) <|
 kD p28 (oMov (ci 0)) <|
 kBlock 0 <|
 kLoop <|
 kD p29 (o_lss g28 g27) <|
 kSeq (kCond g29 (kEnd) <|
 kExit 0) <|
 kSeq (kBlock 1 <|
 kD p30 (oMov g28) <|
 kD p10 (oMov g30) <|
 kD p31 (oMov g9) <|
 kD p32 (o_shl g31 (kV (.int .u64 (.c (.ofNat 8))))) <|
 kD p33 (oMov g0) <|
 kD p34 (oMov g1) <|
 kD p35 (oMov g10) <|
 kD p36 (o_add g34 g35) <|
 kD p37 (oIdxs g33 g36) <|
 kD p38 (oCvti .i64 g37) <|
 kD p39 (o_or g32 g38) <|
 kD p9 (oMov g39) <|
 kEnd) <|
 kD p40 (o_add g28 (ci 1)) <|
 kD p28 (oMov g40) <|
 kEnd) <|
 kD p41 (oMov g9) <|
 kD p42 (oMov g1) <|
 kD p43 (oMov g2) <|
 kD p44 (o_add g42 g43) <|
 kD p6 (oMov g41) <|
 kD p7 (oMov g44) <|
 kD p8 (oMov (ci 0)) <|
 kRet,
 (r3 g6 g7 g8)⟩
/-- wimple/comp.shape -/
noncomputable def k233 : FnK := ⟨kD p2 (oMov (ci 0)) <|
 kD p3 (oMov (ci 0)) <|
 kD p4 (oMov (ci 0)) <|
 kSeq (kD p5 (oMov g0) <|
 kBlock 0 <|
 kSeq (kD p7 (o_eql g5 (ci 2)) <|
 kD p6 (oMov g7) <|
 kCond g6 (kEnd) <|
 kD p8 (o_eql g5 (ci 5)) <|
 kD p6 (oMov g8) <|
 kCond g6 (kEnd) <|
 kD p9 (o_eql g5 (ci 12)) <|
 kD p6 (oMov g9) <|
 kEnd) <|
 kCond g6 (kD p2 (oMov (ci 0)) <|
 kD p3 (oMov (ci 1)) <|
 kD p4 (oMov (ci 0)) <|
 kRet) <|
 kD p11 (o_eql g5 (ci 15)) <|
 kD p10 (oMov g11) <|
 kCond g10 (kD p2 (oMov (ci 2)) <|
 kD p3 (oMov (ci 1)) <|
 kD p4 (oMov (ci 0)) <|
 kRet) <|
 kD p13 (o_eql g5 (ci 6)) <|
 kD p12 (oMov g13) <|
 kCond g12 (kD p2 (oMov (ci 0)) <|
 kD p3 (oMov (ci 2)) <|
 kD p4 (oMov (ci 20)) <|
 kRet) <|
 kEnd) <|
 kD p2 (oMov (ci 0)) <|
 kD p3 (oMov (ci 0)) <|
 kD p4 (oMov (ci 0)) <|
 kRet,
 (r3 g2 g3 g4)⟩
/-- wimple/comp.names -/
noncomputable def k234 : FnK := ⟨kD p6 (oMov (kV (.str []))) <|
 kD p7 (oMov (ci 0)) <|
 kD p8 (oMov (ci 0)) <|
 kD p9 (oMov (kV (.str []))) <|
 kSeq (kD p13 (oMov g2) <|
 kD p14 (oMov (ci 0)) <|
 kBlock 0 <|
 kLoop <|
 kD p15 (o_lss g14 g13) <|
 kSeq (kCond g15 (kEnd) <|
 kExit 0) <|
 kSeq (kBlock 1 <|
 kD p17 (oMov g0) <|
 kD p18 (oMov g1) <|
 kCall p19 (cF 186 (aC g17 (aC g18 aN))) <|
 kD p16 (oMov g19) <|
 kD p20 (oExt g16 0) <|
 kD p21 (oExt g16 1) <|
 kD p22 (oExt g16 2) <|
 kD p10 (oMov g20) <|
 kD p11 (oMov g21) <|
 kD p12 (oMov g22) <|
 kSeq (kD p23 (oMov g12) <|
 kD p24 (o_neq g23 (ci 0)) <|
 kCond g24 (kD p25 (oMov g12) <|
 kD p6 (oMov (kV (.str []))) <|
 kD p7 (oMov (ci 0)) <|
 kD p8 (oMov g25) <|
 kRet) <|
 kEnd) <|
 kD p26 (oMov g9) <|
 kD p27 (oMov g10) <|
 kD p28 (o_add g26 g27) <|
 kD p9 (oMov g28) <|
 kD p29 (oMov g11) <|
 kD p1 (oMov g29) <|
 kEnd) <|
 kD p30 (o_add g14 (ci 1)) <|
 kD p14 (oMov g30) <|
 kEnd) <|
 kD p31 (oMov g9) <|
 kD p32 (oMov g1) <|
 kD p6 (oMov g31) <|
 kD p7 (oMov g32) <|
 kD p8 (oMov (ci 0)) <|
 kRet,
 (r3 g6 g7 g8)⟩
/-- (*wimple/class.asking).has -/
noncomputable def k235 : FnK := ⟨kD p3 (oBox g0) <|
 kD p5 (oBox g2) <|
 kD p6 (oMov (kV (.bool false))) <|
 kD p7 (oMov g1) <|
 kD p8 (oPs (.mkf 259 [] [(.t s5), (.t s3)])) <|
 kCall p9 (cF 236 (aC g7 (aC g8 aN))) <|
 kD p6 (oMov g9) <|
 kRet,
 (r1 g6)⟩
/-- slices.ContainsFunc[[]wimple/api.Rr,wimple/api.Rr] -/
noncomputable def k236 : FnK := ⟨kD p4 (oMov (kV (.bool false))) <|
 kD p5 (oMov g0) <|
 kD p6 (oMov g1) <|
 kCall p7 (cF 260 (aC g5 (aC g6 aN))) <|
 kD p8 (o_geq g7 (ci 0)) <|
 kD p4 (oMov g8) <|
 kRet,
 (r1 g4)⟩
/-- slices.pdqsortCmpFunc[string] -/
noncomputable def k238 : FnK := ⟨kD p10 (oMov (kV (.bool true))) <|
 kD p11 (oMov (kV (.bool true))) <|
 kBlock 0 <|
 kLoop <|
 kBlock 1 <|
 kD p21 (oMov g2) <|
 kD p22 (oMov g1) <|
 kD p23 (o_sub g21 g22) <|
 kD p12 (oMov g23) <|
 kSeq (kD p24 (oMov g12) <|
 kD p25 (o_leq g24 (ci 12)) <|
 kCond g25 (kD p26 (oMov g0) <|
 kD p27 (oMov g1) <|
 kD p28 (oMov g2) <|
 kD p29 (oMov g4) <|
 kCall p30 (cF 261 (aC g26 (aC g27 (aC g28 (aC g29 aN))))) <|
 kRet) <|
 kEnd) <|
 kSeq (kD p31 (oMov g3) <|
 kD p32 (o_eql g31 (ci 0)) <|
 kCond g32 (kD p33 (oMov g0) <|
 kD p34 (oMov g1) <|
 kD p35 (oMov g2) <|
 kD p36 (oMov g4) <|
 kCall p37 (cF 262 (aC g33 (aC g34 (aC g35 (aC g36 aN))))) <|
 kRet) <|
 kEnd) <|
 kSeq (kD p38 (oMov g10) <|
 kD p39 (oNot g38) <|
 kCond g39 (kD p40 (oMov g0) <|
 kD p41 (oMov g1) <|
 kD p42 (oMov g2) <|
 kD p43 (oMov g4) <|
 kCall p44 (cF 263 (aC g40 (aC g41 (aC g42 (aC g43 aN))))) <|
 kD p45 (oMov g3) <|
 kD p46 (o_sub g45 (ci 1)) <|
 kD p3 (oMov g46) <|
 kEnd) <|
 kEnd) <|
 kD p48 (oMov g0) <|
 kD p49 (oMov g1) <|
 kD p50 (oMov g2) <|
 kD p51 (oMov g4) <|
 kCall p52 (cF 264 (aC g48 (aC g49 (aC g50 (aC g51 aN))))) <|
 kD p47 (oMov g52) <|
 kD p53 (oExt g47 0) <|
 kD p54 (oExt g47 1) <|
 kD p13 (oMov g53) <|
 kD p14 (oMov g54) <|
 kSeq (kD p55 (oMov g14) <|
 kD p56 (o_eql g55 (ci 2)) <|
 kCond g56 (kD p57 (oMov g0) <|
 kD p58 (oMov g1) <|
 kD p59 (oMov g2) <|
 kD p60 (oMov g4) <|
 kCall p61 (cF 265 (aC g57 (aC g58 (aC g59 (aC g60 aN))))) <|
 kD p62 (oMov g2) <|
 kD p63 (o_sub g62 (ci 1)) <|
 kD p64 (oMov g13) <|
 kD p65 (oMov g1) <|
 kD p66 (o_sub g64 g65) <|
 kD p67 (o_sub g63 g66) <|
 kD p13 (oMov g67) <|
 kD p14 (oMov (ci 1)) <|
 kEnd) <|
 kEnd) <|
 kSeq (kD p68 (oMov g10) <|
 kD p69 (oMov g68) <|
 kD p70 (oG g69 true (oMov g11)) <|
 kD p71 (oPick g69 g70 (kV (.bool false))) <|
 kD p72 (oMov g71) <|
 kD p73 (oG g72 true (oMov g14)) <|
 kD p74 (oG g72 true (o_eql g73 (ci 1))) <|
 kD p75 (oPick g72 g74 (kV (.bool false))) <|
 kCond g75 (kD p76 (oMov g0) <|
 kD p77 (oMov g1) <|
 kD p78 (oMov g2) <|
 kD p79 (oMov g4) <|
 kCall p80 (cF 266 (aC g76 (aC g77 (aC g78 (aC g79 aN))))) <|
 kCond g80 (kRet) <|
 kEnd) <|
 kEnd) <|
 kSeq (kD p81 (oMov g1) <|
 kD p82 (o_gtr g81 (ci 0)) <|
 kD p83 (oMov g82) <|
 kD p84 (oG g83 true (oMov g4)) <|
 kD p85 (oG g83 true (oMov g0)) <|
 kD p86 (oG g83 true (oMov g1)) <|
 kD p87 (oG g83 true (o_sub g86 (ci 1))) <|
 kD p88 (oG g83 true (oIdx 1 g85 g87)) <|
 kD p89 (oG g83 true (oLd false 1 g88)) <|
 kD p90 (oG g83 true (oMov g0)) <|
 kD p91 (oG g83 true (oMov g13)) <|
 kD p92 (oG g83 true (oIdx 1 g90 g91)) <|
 kD p93 (oG g83 true (oLd false 1 g92)) <|
 kCall p94 (cG g83 true (cV g84 (aC g89 (aC g93 aN)))) <|
 kD p95 (oG g83 true (o_lss g94 (ci 0))) <|
 kD p96 (oG g83 true (oNot g95)) <|
 kD p97 (oPick g83 g96 (kV (.bool false))) <|
 kCond g97 (kD p98 (oMov g0) <|
 kD p99 (oMov g1) <|
 kD p100 (oMov g2) <|
 kD p101 (oMov g13) <|
 kD p102 (oMov g4) <|
 kCall p103 (cF 267 (aC g98 (aC g99 (aC g100 (aC g101 (aC g102 aN)))))) <|
 kD p15 (oMov g103) <|
 kD p104 (oMov g15) <|
 kD p1 (oMov g104) <|
 kExit 1) <|
 kEnd) <|
 kD p106 (oMov g0) <|
 kD p107 (oMov g1) <|
 kD p108 (oMov g2) <|
 kD p109 (oMov g13) <|
 kD p110 (oMov g4) <|
 kCall p111 (cF 268 (aC g106 (aC g107 (aC g108 (aC g109 (aC g110 aN)))))) <|
 kD p105 (oMov g111) <|
 kD p112 (oExt g105 0) <|
 kD p113 (oExt g105 1) <|
 kD p16 (oMov g112) <|
 kD p17 (oMov g113) <|
 kD p114 (oMov g17) <|
 kD p11 (oMov g114) <|
 kD p115 (oMov g16) <|
 kD p116 (oMov g1) <|
 kD p117 (o_sub g115 g116) <|
 kD p118 (oMov g2) <|
 kD p119 (oMov g16) <|
 kD p120 (o_sub g118 g119) <|
 kD p18 (oMov g117) <|
 kD p19 (oMov g120) <|
 kD p121 (oMov g12) <|
 kD p122 (o_quo g121 (ci 8)) <|
 kD p20 (oMov g122) <|
 kD p123 (oMov g18) <|
 kD p124 (oMov g19) <|
 kD p125 (o_lss g123 g124) <|
 kCond g125 (kD p126 (oMov g18) <|
 kD p127 (oMov g20) <|
 kD p128 (o_geq g126 g127) <|
 kD p10 (oMov g128) <|
 kD p129 (oMov g0) <|
 kD p130 (oMov g1) <|
 kD p131 (oMov g16) <|
 kD p132 (oMov g3) <|
 kD p133 (oMov g4) <|
 kCall p134 (cF 238 (aC g129 (aC g130 (aC g131 (aC g132 (aC g133 aN)))))) <|
 kD p135 (oMov g16) <|
 kD p136 (o_add g135 (ci 1)) <|
 kD p1 (oMov g136) <|
 kEnd) <|
 kD p137 (oMov g19) <|
 kD p138 (oMov g20) <|
 kD p139 (o_geq g137 g138) <|
 kD p10 (oMov g139) <|
 kD p140 (oMov g0) <|
 kD p141 (oMov g16) <|
 kD p142 (o_add g141 (ci 1)) <|
 kD p143 (oMov g2) <|
 kD p144 (oMov g3) <|
 kD p145 (oMov g4) <|
 kCall p146 (cF 238 (aC g140 (aC g142 (aC g143 (aC g144 (aC g145 aN)))))) <|
 kD p147 (oMov g16) <|
 kD p2 (oMov g147) <|
 kEnd,
 (rS [])⟩
/-- math/bits.Len -/
noncomputable def k239 : FnK := ⟨kD p2 (oMov (ci 0)) <|
 kSeq (kCond (kV (.bool false)) (kD p3 (oMov g0) <|
 kD p4 (oCvti .u32 g3) <|
 kCall p5 (cF 269 (aC g4 aN)) <|
 kD p2 (oMov g5) <|
 kRet) <|
 kEnd) <|
 kD p6 (oMov g0) <|
 kCall p7 (cF 270 (aC g6 aN)) <|
 kD p2 (oMov g7) <|
 kRet,
 (r1 g2)⟩
/-- wimple/rdata.soa -/
noncomputable def k242 : FnK := ⟨kD p2 (oMov (kV (.bool false))) <|
 kD p5 (oMov g0) <|
 kCall p6 (cF 212 (aC g5 aN)) <|
 kD p3 (oMov g6) <|
 kSeq (kD p7 (oMov g3) <|
 kD p8 (o_lss g7 (ci 0)) <|
 kCond g8 (kD p2 (oMov (kV (.bool false))) <|
 kRet) <|
 kEnd) <|
 kD p9 (oMov g0) <|
 kD p10 (oMov g3) <|
 kD p11 (oSlc 0 g9 (some g10) none (oPs (.slc 0 (.t s9) (some (.t s10)) none none))) <|
 kCall p12 (cF 212 (aC g11 aN)) <|
 kD p4 (oMov g12) <|
 kD p13 (oMov g4) <|
 kD p14 (o_geq g13 (ci 0)) <|
 kD p15 (oMov g14) <|
 kD p16 (oG g15 true (oMov g0)) <|
 kD p17 (oG g15 true (oLenT g16)) <|
 kD p18 (oG g15 true (oMov g3)) <|
 kD p19 (oG g15 true (o_sub g17 g18)) <|
 kD p20 (oG g15 true (oMov g4)) <|
 kD p21 (oG g15 true (o_sub g19 g20)) <|
 kD p22 (oG g15 true (o_eql g21 (ci 20))) <|
 kD p23 (oPick g15 g22 (kV (.bool false))) <|
 kD p2 (oMov g23) <|
 kRet,
 (r1 g2)⟩
/-- slices.pdqsortOrdered[string] -/
noncomputable def k244 : FnK := ⟨kD p8 (oMov (kV (.bool true))) <|
 kD p9 (oMov (kV (.bool true))) <|
 kBlock 0 <|
 kLoop <|
 kBlock 1 <|
 kD p19 (oMov g2) <|
 kD p20 (oMov g1) <|
 kD p21 (o_sub g19 g20) <|
 kD p10 (oMov g21) <|
 kSeq (kD p22 (oMov g10) <|
 kD p23 (o_leq g22 (ci 12)) <|
 kCond g23 (kD p24 (oMov g0) <|
 kD p25 (oMov g1) <|
 kD p26 (oMov g2) <|
 kCall p27 (cF 271 (aC g24 (aC g25 (aC g26 aN)))) <|
 kRet) <|
 kEnd) <|
 kSeq (kD p28 (oMov g3) <|
 kD p29 (o_eql g28 (ci 0)) <|
 kCond g29 (kD p30 (oMov g0) <|
 kD p31 (oMov g1) <|
 kD p32 (oMov g2) <|
 kCall p33 (cF 272 (aC g30 (aC g31 (aC g32 aN)))) <|
 kRet) <|
 kEnd) <|
 kSeq (kD p34 (oMov g8) <|
 kD p35 (oNot g34) <|
 kCond g35 (kD p36 (oMov g0) <|
 kD p37 (oMov g1) <|
 kD p38 (oMov g2) <|
 kCall p39 (cF 273 (aC g36 (aC g37 (aC g38 aN)))) <|
 kD p40 (oMov g3) <|
 kD p41 (o_sub g40 (ci 1)) <|
 kD p3 (oMov g41) <|
 kEnd) <|
 kEnd) <|
 kD p43 (oMov g0) <|
 kD p44 (oMov g1) <|
 kD p45 (oMov g2) <|
 kCall p46 (cF 274 (aC g43 (aC g44 (aC g45 aN)))) <|
 kD p42 (oMov g46) <|
 kD p47 (oExt g42 0) <|
 kD p48 (oExt g42 1) <|
 kD p11 (oMov g47) <|
 kD p12 (oMov g48) <|
 kSeq (kD p49 (oMov g12) <|
 kD p50 (o_eql g49 (ci 2)) <|
 kCond g50 (kD p51 (oMov g0) <|
 kD p52 (oMov g1) <|
 kD p53 (oMov g2) <|
 kCall p54 (cF 275 (aC g51 (aC g52 (aC g53 aN)))) <|
 kD p55 (oMov g2) <|
 kD p56 (o_sub g55 (ci 1)) <|
 kD p57 (oMov g11) <|
 kD p58 (oMov g1) <|
 kD p59 (o_sub g57 g58) <|
 kD p60 (o_sub g56 g59) <|
 kD p11 (oMov g60) <|
 kD p12 (oMov (ci 1)) <|
 kEnd) <|
 kEnd) <|
 kSeq (kD p61 (oMov g8) <|
 kD p62 (oMov g61) <|
 kD p63 (oG g62 true (oMov g9)) <|
 kD p64 (oPick g62 g63 (kV (.bool false))) <|
 kD p65 (oMov g64) <|
 kD p66 (oG g65 true (oMov g12)) <|
 kD p67 (oG g65 true (o_eql g66 (ci 1))) <|
 kD p68 (oPick g65 g67 (kV (.bool false))) <|
 kCond g68 (kD p69 (oMov g0) <|
 kD p70 (oMov g1) <|
 kD p71 (oMov g2) <|
 kCall p72 (cF 276 (aC g69 (aC g70 (aC g71 aN)))) <|
 kCond g72 (kRet) <|
 kEnd) <|
 kEnd) <|
 kSeq (kD p73 (oMov g1) <|
 kD p74 (o_gtr g73 (ci 0)) <|
 kD p75 (oMov g74) <|
 kD p76 (oG g75 true (oMov g0)) <|
 kD p77 (oG g75 true (oMov g1)) <|
 kD p78 (oG g75 true (o_sub g77 (ci 1))) <|
 kD p79 (oG g75 true (oIdx 1 g76 g78)) <|
 kD p80 (oG g75 true (oLd false 1 g79)) <|
 kD p81 (oG g75 true (oMov g0)) <|
 kD p82 (oG g75 true (oMov g11)) <|
 kD p83 (oG g75 true (oIdx 1 g81 g82)) <|
 kD p84 (oG g75 true (oLd false 1 g83)) <|
 kCall p85 (cG g75 true (cF 277 (aC g80 (aC g84 aN)))) <|
 kD p86 (oG g75 true (oNot g85)) <|
 kD p87 (oPick g75 g86 (kV (.bool false))) <|
 kCond g87 (kD p88 (oMov g0) <|
 kD p89 (oMov g1) <|
 kD p90 (oMov g2) <|
 kD p91 (oMov g11) <|
 kCall p92 (cF 278 (aC g88 (aC g89 (aC g90 (aC g91 aN))))) <|
 kD p13 (oMov g92) <|
 kD p93 (oMov g13) <|
 kD p1 (oMov g93) <|
 kExit 1) <|
 kEnd) <|
 kD p95 (oMov g0) <|
 kD p96 (oMov g1) <|
 kD p97 (oMov g2) <|
 kD p98 (oMov g11) <|
 kCall p99 (cF 279 (aC g95 (aC g96 (aC g97 (aC g98 aN))))) <|
 kD p94 (oMov g99) <|
 kD p100 (oExt g94 0) <|
 kD p101 (oExt g94 1) <|
 kD p14 (oMov g100) <|
 kD p15 (oMov g101) <|
 kD p102 (oMov g15) <|
 kD p9 (oMov g102) <|
 kD p103 (oMov g14) <|
 kD p104 (oMov g1) <|
 kD p105 (o_sub g103 g104) <|
 kD p106 (oMov g2) <|
 kD p107 (oMov g14) <|
 kD p108 (o_sub g106 g107) <|
 kD p16 (oMov g105) <|
 kD p17 (oMov g108) <|
 kD p109 (oMov g10) <|
 kD p110 (o_quo g109 (ci 8)) <|
 kD p18 (oMov g110) <|
 kD p111 (oMov g16) <|
 kD p112 (oMov g17) <|
 kD p113 (o_lss g111 g112) <|
 kCond g113 (kD p114 (oMov g16) <|
 kD p115 (oMov g18) <|
 kD p116 (o_geq g114 g115) <|
 kD p8 (oMov g116) <|
 kD p117 (oMov g0) <|
 kD p118 (oMov g1) <|
 kD p119 (oMov g14) <|
 kD p120 (oMov g3) <|
 kCall p121 (cF 244 (aC g117 (aC g118 (aC g119 (aC g120 aN))))) <|
 kD p122 (oMov g14) <|
 kD p123 (o_add g122 (ci 1)) <|
 kD p1 (oMov g123) <|
 kEnd) <|
 kD p124 (oMov g17) <|
 kD p125 (oMov g18) <|
 kD p126 (o_geq g124 g125) <|
 kD p8 (oMov g126) <|
 kD p127 (oMov g0) <|
 kD p128 (oMov g14) <|
 kD p129 (o_add g128 (ci 1)) <|
 kD p130 (oMov g2) <|
 kD p131 (oMov g3) <|
 kCall p132 (cF 244 (aC g127 (aC g129 (aC g130 (aC g131 aN))))) <|
 kD p133 (oMov g14) <|
 kD p2 (oMov g133) <|
 kEnd,
 (rS [])⟩
/-- wimple/head.Put -/
noncomputable def k250 : FnK := ⟨kD p2 (oBox g0) <|
 kD p3 (oBox g1) <|
 kD p4 (oMov (kV (.str []))) <|
 kD p5 (oMov (ci 0)) <|
 kSeq (kD p10 (oLd true 4 g3) <|
 kCall p11 (cF 291 (aC g2 (aC g10 aN))) <|
 kD p12 (oNot g11) <|
 kCond g12 (kD p4 (oMov (kV (.str []))) <|
 kD p5 (oMov (ci 600)) <|
 kRet) <|
 kEnd) <|
 kD p13 (oFld 1 g2) <|
 kD p14 (oLd false 1 g13) <|
 kD p16 (oFld 2 g2) <|
 kD p17 (oLd false 1 g16) <|
 kD p18 (o_shl g17 (kV (.int .u64 (.c (.ofNat 11))))) <|
 kD p20 (oFld 3 g2) <|
 kD p21 (oLd false 1 g20) <|
 kD p24 (oFld 4 g2) <|
 kD p25 (oLd false 1 g24) <|
 kD p28 (oFld 5 g2) <|
 kD p29 (oLd false 1 g28) <|
 kD p32 (oFld 6 g2) <|
 kD p33 (oLd false 1 g32) <|
 kD p36 (oFld 7 g2) <|
 kD p37 (oLd false 1 g36) <|
 kD p38 (o_shl g37 (kV (.int .u64 (.c (.ofNat 4))))) <|
 kD p40 (oFld 8 g2) <|
 kD p41 (oLd false 1 g40) <|
 kCall p15 (cF 292 (aC g14 (aC (ci 15) aN))) <|
 kChk g41 (oLd false 1 g40) <|
 kChk g37 (oLd false 1 g36) <|
 kChk g33 (oLd false 1 g32) <|
 kChk g29 (oLd false 1 g28) <|
 kChk g25 (oLd false 1 g24) <|
 kChk g21 (oLd false 1 g20) <|
 kChk g17 (oLd false 1 g16) <|
 kD p19 (o_or g15 g18) <|
 kCall p22 (cF 292 (aC g21 (aC (ci 10) aN))) <|
 kChk g41 (oLd false 1 g40) <|
 kChk g37 (oLd false 1 g36) <|
 kChk g33 (oLd false 1 g32) <|
 kChk g29 (oLd false 1 g28) <|
 kChk g25 (oLd false 1 g24) <|
 kChk g17 (oLd false 1 g16) <|
 kD p23 (o_or g19 g22) <|
 kCall p26 (cF 292 (aC g25 (aC (ci 9) aN))) <|
 kChk g41 (oLd false 1 g40) <|
 kChk g37 (oLd false 1 g36) <|
 kChk g33 (oLd false 1 g32) <|
 kChk g29 (oLd false 1 g28) <|
 kChk g17 (oLd false 1 g16) <|
 kD p27 (o_or g23 g26) <|
 kCall p30 (cF 292 (aC g29 (aC (ci 8) aN))) <|
 kChk g41 (oLd false 1 g40) <|
 kChk g37 (oLd false 1 g36) <|
 kChk g33 (oLd false 1 g32) <|
 kChk g17 (oLd false 1 g16) <|
 kD p31 (o_or g27 g30) <|
 kCall p34 (cF 292 (aC g33 (aC (ci 7) aN))) <|
 kChk g41 (oLd false 1 g40) <|
 kChk g37 (oLd false 1 g36) <|
 kChk g17 (oLd false 1 g16) <|
 kD p35 (o_or g31 g34) <|
 kD p39 (o_or g35 g38) <|
 kD p42 (o_or g39 g41) <|
 kD p6 (oMov g42) <|
 kD p43 (oFld 0 g2) <|
 kD p44 (oLd false 1 g43) <|
 kCall p45 (cF 256 (aC g44 aN)) <|
 kD p46 (oMov g6) <|
 kCall p47 (cF 256 (aC g46 aN)) <|
 kD p48 (o_add g45 g47) <|
 kD p7 (oMov g48) <|
 kSeq (kD p49 (oLd true 4 g3) <|
 kD p50 (oMov (ci 0)) <|
 kBlock 0 <|
 kLoop <|
 kD p51 (o_lss g50 (ci 4)) <|
 kSeq (kCond g51 (kEnd) <|
 kExit 0) <|
 kSeq (kBlock 1 <|
 kD p52 (oIdxv false 4 1 g49 g50) <|
 kD p9 (oMov g52) <|
 kD p53 (oMov g7) <|
 kD p54 (oMov g9) <|
 kCall p55 (cF 256 (aC g54 aN)) <|
 kD p56 (o_add g53 g55) <|
 kD p7 (oMov g56) <|
 kEnd) <|
 kD p57 (o_add g50 (ci 1)) <|
 kD p50 (oMov g57) <|
 kEnd) <|
 kD p58 (oMov g7) <|
 kD p4 (oMov g58) <|
 kD p5 (oMov (ci 0)) <|
 kRet,
 (r2 g4 g5)⟩
/-- wimple/wire.fits -/
noncomputable def k251 : FnK := ⟨kD p2 (oMov (kV (.bool false))) <|
 kSeq (kD p8 (oMov g0) <|
 kD p9 (oNil g8) <|
 kD p10 (oFld 9 g9) <|
 kD p11 (oLd false 1 g10) <|
 kD p12 (oLenS g11) <|
 kD p13 (o_gtr g12 (ci 64)) <|
 kCond g13 (kD p2 (oMov (kV (.bool false))) <|
 kRet) <|
 kEnd) <|
 kSeq (kD p14 (oMov g0) <|
 kD p15 (oNil g14) <|
 kD p16 (oFld 9 g15) <|
 kD p17 (oLd false 1 g16) <|
 kD p18 (oLenS g17) <|
 kD p19 (oMov (ci 0)) <|
 kBlock 0 <|
 kLoop <|
 kD p20 (o_lss g19 g18) <|
 kSeq (kCond g20 (kEnd) <|
 kExit 0) <|
 kSeq (kBlock 1 <|
 kD p21 (oIdx 3 g17 g19) <|
 kD p22 (oLd true 3 g21) <|
 kD p4 (oAlloc [(.str []), (vi 0), (vi 0)]) <|
 kD0 (oSt 3 g4 g22) <|
 kD p23 (oFld 0 g4) <|
 kD p24 (oLd false 1 g23) <|
 kCall p25 (cF 75 (aC g24 aN)) <|
 kD p26 (oNot g25) <|
 kD p27 (oMov g26) <|
 kD p28 (oG g27 false (oFld 1 g4)) <|
 kD p29 (oG g27 false (oLd false 1 g28)) <|
 kCall p30 (cG g27 false (cF 293 (aC g29 (aC (ci 1) (aC (ci 65535) aN))))) <|
 kD p31 (oG g27 false (oNot g30)) <|
 kD p32 (oPick g27 (kV (.bool true)) g31) <|
 kD p33 (oMov g32) <|
 kD p34 (oG g33 false (oFld 2 g4)) <|
 kD p35 (oG g33 false (oLd false 1 g34)) <|
 kCall p36 (cG g33 false (cF 293 (aC g35 (aC (ci 0) (aC (ci 65535) aN))))) <|
 kD p37 (oG g33 false (oNot g36)) <|
 kD p38 (oPick g33 (kV (.bool true)) g37) <|
 kCond g38 (kD p2 (oMov (kV (.bool false))) <|
 kRet) <|
 kEnd) <|
 kD p39 (o_add g19 (ci 1)) <|
 kD p19 (oMov g39) <|
 kEnd) <|
 kSeq (kD p40 (oMov g0) <|
 kD p41 (oNil g40) <|
 kD p42 (oFld 10 g41) <|
 kD p43 (oLd false 1 g42) <|
 kD p44 (oMov g0) <|
 kD p45 (oNil g44) <|
 kD p46 (oFld 11 g45) <|
 kD p47 (oLd false 1 g46) <|
 kD p48 (oMov g0) <|
 kD p49 (oNil g48) <|
 kD p50 (oFld 12 g49) <|
 kD p51 (oLd false 1 g50) <|
 kD p52 (oBuild [(.ref .nilsl), (.ref .nilsl), (.ref .nilsl)] (bC 0 1 g43 (bC 1 1 g47 (bC 2 1 g51 bN)))) <|
 kD p53 (oMov (ci 0)) <|
 kBlock 2 <|
 kLoop <|
 kD p54 (o_lss g53 (ci 3)) <|
 kSeq (kCond g54 (kEnd) <|
 kExit 2) <|
 kSeq (kBlock 3 <|
 kD p55 (oIdxv false 3 1 g52 g53) <|
 kD p6 (oMov g55) <|
 kSeq (kD p56 (oMov g6) <|
 kD p57 (oLenS g56) <|
 kD p58 (o_gtr g57 (ci 64)) <|
 kCond g58 (kD p2 (oMov (kV (.bool false))) <|
 kRet) <|
 kEnd) <|
 kD p59 (oMov g6) <|
 kD p60 (oLenS g59) <|
 kD p61 (oMov (ci 0)) <|
 kBlock 4 <|
 kLoop <|
 kD p62 (o_lss g61 g60) <|
 kSeq (kCond g62 (kEnd) <|
 kExit 4) <|
 kSeq (kBlock 5 <|
 kD p63 (oMov g61) <|
 kD p7 (oMov g63) <|
 kD p64 (oMov g6) <|
 kD p65 (oMov g7) <|
 kD p66 (oIdx 5 g64 g65) <|
 kCall p67 (cF 294 (aC g66 aN)) <|
 kD p68 (oNot g67) <|
 kCond g68 (kD p2 (oMov (kV (.bool false))) <|
 kRet) <|
 kEnd) <|
 kD p69 (o_add g61 (ci 1)) <|
 kD p61 (oMov g69) <|
 kEnd) <|
 kD p70 (o_add g53 (ci 1)) <|
 kD p53 (oMov g70) <|
 kEnd) <|
 kD p2 (oMov (kV (.bool true))) <|
 kRet,
 (r1 g2)⟩
/-- wimple/comp.New -/
noncomputable def k252 : FnK := ⟨kD p0 (oMov (kV (.ref .nilptr))) <|
 kD p1 (oAs .mkm) <|
 kD p2 (oBuild [(.ref .nilsl), (.ref .mapn)] (bC 1 1 g1 bN)) <|
 kD p3 (oBox g2) <|
 kD p0 (oMov g3) <|
 kRet,
 (r1 g0)⟩
/-- (*wimple/wire.writer).raw -/
noncomputable def k253 : FnK := ⟨kD p4 (oMov g0) <|
 kD p5 (oMov g0) <|
 kD p6 (oNil g5) <|
 kD p7 (oFld 0 g6) <|
 kD p8 (oLd false 1 g7) <|
 kD p9 (oMov g1) <|
 kCall p10 (cF 295 (aC g8 (aC g9 aN))) <|
 kD p11 (o_neq g10 (ci 0)) <|
 kD p12 (oMov g11) <|
 kD p13 (oG g12 false (oMov g0)) <|
 kD p14 (oG g12 false (oNil g13)) <|
 kD p15 (oG g12 false (oFld 1 g14)) <|
 kD p16 (oG g12 false (oLd false 1 g15)) <|
 kD p17 (oPick g12 (kV (.bool true)) g16) <|
 kD p18 (oNil g4) <|
 kD p19 (oFld 1 g18) <|
 kD0 (oSt 1 g19 g17) <|
 kEnd,
 (rS [])⟩
/-- (*wimple/wire.writer).name -/
noncomputable def k254 : FnK := ⟨kD p8 (oMov g0) <|
 kD p9 (oMov g0) <|
 kD p10 (oNil g9) <|
 kD p11 (oFld 0 g10) <|
 kD p12 (oLd false 1 g11) <|
 kD p13 (oMov g1) <|
 kCall p14 (cF 296 (aC g12 (aC g13 aN))) <|
 kD p15 (o_neq g14 (ci 0)) <|
 kD p16 (oMov g15) <|
 kD p17 (oG g16 false (oMov g0)) <|
 kD p18 (oG g16 false (oNil g17)) <|
 kD p19 (oG g16 false (oFld 1 g18)) <|
 kD p20 (oG g16 false (oLd false 1 g19)) <|
 kD p21 (oPick g16 (kV (.bool true)) g20) <|
 kD p22 (oNil g8) <|
 kD p23 (oFld 1 g22) <|
 kD0 (oSt 1 g23 g21) <|
 kD p24 (oMov g0) <|
 kD p25 (oMov g2) <|
 kCall p26 (cF 256 (aC g25 aN)) <|
 kD p27 (oMov g3) <|
 kCall p28 (cF 256 (aC g27 aN)) <|
 kD p29 (o_add g26 g28) <|
 kCall p30 (cF 253 (aC g24 (aC g29 aN))) <|
 kEnd,
 (rS [])⟩
/-- wimple/octet.Put32 -/
noncomputable def k255 : FnK := ⟨kD p2 (oMov (kV (.str []))) <|
 kD p3 (oMov g0) <|
 kD p4 (o_shr g3 (kV (.int .u64 (.c (.ofNat 16))))) <|
 kCall p5 (cF 256 (aC g4 aN)) <|
 kD p6 (oMov g0) <|
 kCall p7 (cF 256 (aC g6 aN)) <|
 kD p8 (o_add g5 g7) <|
 kD p2 (oMov g8) <|
 kRet,
 (r1 g2)⟩
/-- wimple/octet.Put16 -/
noncomputable def k256 : FnK := ⟨kD p2 (oMov (kV (.str []))) <|
 kD p3 (oMov g0) <|
 kD p4 (o_shr g3 (kV (.int .u64 (.c (.ofNat 8))))) <|
 kD p5 (oCvti .u8 g4) <|
 kD p6 (oMov g0) <|
 kD p7 (oCvti .u8 g6) <|
 kD p8 (oBsl1 1 1 2 (lC g5 (lC g7 lN))) <|
 kD p9 (oCvts g8 (oRs (.cvts (.t s8)))) <|
 kD p2 (oMov g9) <|
 kRet,
 (r1 g2)⟩
/-- (*wimple/comp.Writer).All -/
noncomputable def k257 : FnK := ⟨kD p2 (oMov (kV (.str []))) <|
 kSeq (kD p3 (oMov g0) <|
 kD p4 (oPs (.eqx false .p (.t s3) (.k (.ref .nilptr)))) <|
 kCond g4 (kD p2 (oMov (kV (.str []))) <|
 kRet) <|
 kEnd) <|
 kD p5 (oMov g0) <|
 kD p6 (oNil g5) <|
 kD p7 (oFld 0 g6) <|
 kD p8 (oLd false 1 g7) <|
 kD p9 (oCvts g8 (oRs (.cvts (.t s8)))) <|
 kD p2 (oMov g9) <|
 kRet,
 (r1 g2)⟩
/-- wimple/opt.Put -/
noncomputable def k258 : FnK := ⟨kD p1 (oBox g0) <|
 kD p2 (oAlloc [(.str []), (vi 0), (vi 0), (vi 0), (.str [])]) <|
 kD p3 (oMov (ci 0)) <|
 kSeq (kD p8 (oFld 0 g1) <|
 kD p9 (oLd false 1 g8) <|
 kCall p10 (cF 297 (aC g9 (aC (ci 65535) aN))) <|
 kD p11 (oNot g10) <|
 kD p12 (oMov g11) <|
 kD p13 (oG g12 false (oFld 1 g1)) <|
 kD p14 (oG g12 false (oLd false 1 g13)) <|
 kCall p15 (cG g12 false (cF 297 (aC g14 (aC (ci 255) aN)))) <|
 kD p16 (oG g12 false (oNot g15)) <|
 kD p17 (oPick g12 (kV (.bool true)) g16) <|
 kD p18 (oMov g17) <|
 kD p19 (oG g18 false (oFld 2 g1)) <|
 kD p20 (oG g18 false (oLd false 1 g19)) <|
 kCall p21 (cG g18 false (cF 297 (aC g20 (aC (ci 255) aN)))) <|
 kD p22 (oG g18 false (oNot g21)) <|
 kD p23 (oPick g18 (kV (.bool true)) g22) <|
 kD p24 (oMov g23) <|
 kD p25 (oG g24 false (oFld 4 g1)) <|
 kD p26 (oG g24 false (oLd false 1 g25)) <|
 kCall p27 (cG g24 false (cF 297 (aC g26 (aC (ci 32767) aN)))) <|
 kD p28 (oG g24 false (oNot g27)) <|
 kD p29 (oPick g24 (kV (.bool true)) g28) <|
 kCond g29 (kD p30 (oBuild [(.str []), (vi 0), (vi 0), (vi 0), (.str [])] bN) <|
 kD0 (oSt 5 g2 g30) <|
 kD p3 (oMov (ci 800)) <|
 kRet) <|
 kEnd) <|
 kD p4 (oMov (kV (.ref .nilsl))) <|
 kSeq (kD p31 (oFld 5 g1) <|
 kD p32 (oLd false 1 g31) <|
 kD p33 (oLenS g32) <|
 kD p34 (oMov (ci 0)) <|
 kBlock 0 <|
 kLoop <|
 kD p35 (o_lss g34 g33) <|
 kSeq (kCond g35 (kEnd) <|
 kExit 0) <|
 kSeq (kBlock 1 <|
 kD p36 (oIdx 2 g32 g34) <|
 kD p37 (oLd true 2 g36) <|
 kD p6 (oAlloc [(vi 0), (.str [])]) <|
 kD0 (oSt 2 g6 g37) <|
 kSeq (kD p38 (oFld 0 g6) <|
 kD p39 (oLd false 1 g38) <|
 kCall p40 (cF 297 (aC g39 (aC (ci 65535) aN))) <|
 kD p41 (oNot g40) <|
 kD p42 (oMov g41) <|
 kD p43 (oG g42 false (oFld 1 g6)) <|
 kD p44 (oG g42 false (oLd false 1 g43)) <|
 kD p45 (oG g42 false (oLenT g44)) <|
 kD p46 (oG g42 false (o_gtr g45 (ci 65535))) <|
 kD p47 (oPick g42 (kV (.bool true)) g46) <|
 kCond g47 (kD p48 (oBuild [(.str []), (vi 0), (vi 0), (vi 0), (.str [])] bN) <|
 kD0 (oSt 5 g2 g48) <|
 kD p3 (oMov (ci 800)) <|
 kRet) <|
 kEnd) <|
 kD p49 (oMov g4) <|
 kD p50 (oFld 0 g6) <|
 kD p51 (oLd false 1 g50) <|
 kD p53 (oFld 1 g6) <|
 kD p54 (oLd false 1 g53) <|
 kD p55 (oLenT g54) <|
 kD p59 (oFld 1 g6) <|
 kD p60 (oLd false 1 g59) <|
 kCall p52 (cF 256 (aC g51 aN)) <|
 kChk g60 (oLd false 1 g59) <|
 kChk g54 (oLd false 1 g53) <|
 kCall p56 (cF 256 (aC g55 aN)) <|
 kChk g60 (oLd false 1 g59) <|
 kD p57 (o_add g52 g56) <|
 kD p58 (oApp 1 1 g49 g57 (oEs (.app false false 1 1 (.t s49) (.t s57)))) <|
 kChk g60 (oLd false 1 g59) <|
 kD p61 (oApp 1 1 g58 g60 (oEs (.app false false 1 1 (.t s58) (.t s60)))) <|
 kD p4 (oMov g61) <|
 kD p62 (oMov g4) <|
 kD p63 (oLenS g62) <|
 kD p64 (o_gtr g63 (ci 65535)) <|
 kCond g64 (kD p65 (oBuild [(.str []), (vi 0), (vi 0), (vi 0), (.str [])] bN) <|
 kD0 (oSt 5 g2 g65) <|
 kD p3 (oMov (ci 800)) <|
 kRet) <|
 kEnd) <|
 kD p66 (o_add g34 (ci 1)) <|
 kD p34 (oMov g66) <|
 kEnd) <|
 kD p67 (oFld 1 g1) <|
 kD p68 (oLd false 1 g67) <|
 kD p69 (o_shl g68 (kV (.int .u64 (.c (.ofNat 24))))) <|
 kD p70 (oFld 2 g1) <|
 kD p71 (oLd false 1 g70) <|
 kD p72 (o_shl g71 (kV (.int .u64 (.c (.ofNat 16))))) <|
 kD p73 (o_or g69 g72) <|
 kD p74 (oFld 4 g1) <|
 kD p75 (oLd false 1 g74) <|
 kD p76 (o_or g73 g75) <|
 kD p7 (oMov g76) <|
 kSeq (kD p77 (oFld 3 g1) <|
 kD p78 (oLd false 1 g77) <|
 kCond g78 (kD p79 (oMov g7) <|
 kD p80 (o_or g79 (ci 32768)) <|
 kD p7 (oMov g80) <|
 kEnd) <|
 kEnd) <|
 kD p81 (oFld 0 g1) <|
 kD p82 (oLd false 1 g81) <|
 kD p83 (oMov g7) <|
 kD p84 (oMov g4) <|
 kD p85 (oCvts g84 (oRs (.cvts (.t s84)))) <|
 kD p86 (oBuild [(.str []), (vi 0), (vi 0), (vi 0), (.str [])] (bC 0 1 (kV (.str [0])) (bC 1 1 (ci 41) (bC 2 1 g82 (bC 3 1 g83 (bC 4 1 g85 bN)))))) <|
 kD0 (oSt 5 g2 g86) <|
 kD p3 (oMov (ci 0)) <|
 kRet,
 (rS [.cell s2 true 5, .tmp s3])⟩
/-- (*wimple/class.asking).has$1 -/
noncomputable def k259 : FnK := ⟨kD p3 (oBox g0) <|
 kD p4 (oMov (kV (.bool false))) <|
 kD p5 (oFld 1 g3) <|
 kD p6 (oLd false 1 g5) <|
 kD p7 (oLd false 1 g1) <|
 kD p8 (o_eql g6 g7) <|
 kD p9 (oMov g8) <|
 kD p10 (oG g9 true (oFld 0 g3)) <|
 kD p11 (oG g9 true (oLd false 1 g10)) <|
 kD p12 (oG g9 true (oLd false 1 g2)) <|
 kD p13 (oG g9 true (oNil g12)) <|
 kD p14 (oG g9 true (oFld 1 g13)) <|
 kD p15 (oG g9 true (oLd false 1 g14)) <|
 kD p16 (oG g9 true (oNil g15)) <|
 kD p17 (oG g9 true (oFld 0 g16)) <|
 kD p18 (oG g9 true (oLd false 1 g17)) <|
 kCall p19 (cG g9 true (cF 113 (aC g11 (aC g18 aN)))) <|
 kD p20 (oPick g9 g19 (kV (.bool false))) <|
 kD p4 (oMov g20) <|
 kRet,
 (r1 g4)⟩
/-- slices.IndexFunc[[]wimple/api.Rr,wimple/api.Rr] -/
noncomputable def k260 : FnK := ⟨kD p4 (oMov (ci 0)) <|
 kSeq (kD p6 (oMov g0) <|
 kD p7 (oLenS g6) <|
 kD p8 (oMov (ci 0)) <|
 kBlock 0 <|
 kLoop <|
 kD p9 (o_lss g8 g7) <|
 kSeq (kCond g9 (kEnd) <|
 kExit 0) <|
 kSeq (kBlock 1 <|
 kD p10 (oMov g8) <|
 kD p5 (oMov g10) <|
 kD p11 (oMov g1) <|
 kD p12 (oMov g0) <|
 kD p13 (oMov g5) <|
 kD p14 (oIdx 5 g12 g13) <|
 kD p15 (oLd true 5 g14) <|
 kCall p16 (cV g11 (aC g15 aN)) <|
 kCond g16 (kD p17 (oMov g5) <|
 kD p4 (oMov g17) <|
 kRet) <|
 kEnd) <|
 kD p18 (o_add g8 (ci 1)) <|
 kD p8 (oMov g18) <|
 kEnd) <|
 kD p4 (oMov (kV (.int .i64 (.c (.negSucc 0))))) <|
 kRet,
 (r1 g4)⟩
/-- slices.insertionSortCmpFunc[string] -/
noncomputable def k261 : FnK := ⟨kD p10 (oMov g1) <|
 kD p11 (o_add g10 (ci 1)) <|
 kD p8 (oMov g11) <|
 kBlock 0 <|
 kLoop <|
 kSeq (kD p12 (oMov g8) <|
 kD p13 (oMov g2) <|
 kD p14 (o_lss g12 g13) <|
 kCond g14 (kEnd) <|
 kExit 0) <|
 kSeq (kBlock 1 <|
 kD p17 (oMov g8) <|
 kD p9 (oMov g17) <|
 kBlock 2 <|
 kLoop <|
 kSeq (kD p18 (oMov g9) <|
 kD p19 (oMov g1) <|
 kD p20 (o_gtr g18 g19) <|
 kD p21 (oMov g20) <|
 kD p22 (oG g21 true (oMov g3)) <|
 kD p23 (oG g21 true (oMov g0)) <|
 kD p24 (oG g21 true (oMov g9)) <|
 kD p25 (oG g21 true (oIdx 1 g23 g24)) <|
 kD p26 (oG g21 true (oLd false 1 g25)) <|
 kD p27 (oG g21 true (oMov g0)) <|
 kD p28 (oG g21 true (oMov g9)) <|
 kD p29 (oG g21 true (o_sub g28 (ci 1))) <|
 kD p30 (oG g21 true (oIdx 1 g27 g29)) <|
 kD p31 (oG g21 true (oLd false 1 g30)) <|
 kCall p32 (cG g21 true (cV g22 (aC g26 (aC g31 aN)))) <|
 kD p33 (oG g21 true (o_lss g32 (ci 0))) <|
 kD p34 (oPick g21 g33 (kV (.bool false))) <|
 kCond g34 (kEnd) <|
 kExit 2) <|
 kSeq (kBlock 3 <|
 kD p37 (oMov g0) <|
 kD p38 (oMov g9) <|
 kD p39 (oMov g0) <|
 kD p40 (oMov g9) <|
 kD p41 (o_sub g40 (ci 1)) <|
 kD p42 (oMov g0) <|
 kD p43 (oMov g9) <|
 kD p44 (o_sub g43 (ci 1)) <|
 kD p45 (oIdx 1 g42 g44) <|
 kD p46 (oLd false 1 g45) <|
 kD p47 (oMov g0) <|
 kD p48 (oMov g9) <|
 kD p49 (oIdx 1 g47 g48) <|
 kD p50 (oLd false 1 g49) <|
 kD p51 (oIdx 1 g37 g38) <|
 kD0 (oSt 1 g51 g46) <|
 kD p52 (oIdx 1 g39 g41) <|
 kD0 (oSt 1 g52 g50) <|
 kEnd) <|
 kD p35 (oMov g9) <|
 kD p36 (o_sub g35 (ci 1)) <|
 kD p9 (oMov g36) <|
 kEnd) <|
 kD p15 (oMov g8) <|
 kD p16 (o_add g15 (ci 1)) <|
 kD p8 (oMov g16) <|
 kEnd,
 (rS [])⟩
/-- math/bits.Len64 -/
noncomputable def k270 : FnK := ⟨kD p2 (oMov (ci 0)) <|
 kSeq (kD p3 (oMov g0) <|
 kD p4 (o_geq g3 (kV (.int .u64 (.c (.ofNat 4294967296))))) <|
 kCond g4 (kD p5 (oMov g0) <|
 kD p6 (o_shr g5 (kV (.int .u64 (.c (.ofNat 32))))) <|
 kD p0 (oMov g6) <|
 kD p2 (oMov (ci 32)) <|
 kEnd) <|
 kEnd) <|
 kSeq (kD p7 (oMov g0) <|
 kD p8 (o_geq g7 (kV (.int .u64 (.c (.ofNat 65536))))) <|
 kCond g8 (kD p9 (oMov g0) <|
 kD p10 (o_shr g9 (kV (.int .u64 (.c (.ofNat 16))))) <|
 kD p0 (oMov g10) <|
 kD p11 (oMov g2) <|
 kD p12 (o_add g11 (ci 16)) <|
 kD p2 (oMov g12) <|
 kEnd) <|
 kEnd) <|
 kSeq (kD p13 (oMov g0) <|
 kD p14 (o_geq g13 (kV (.int .u64 (.c (.ofNat 256))))) <|
 kCond g14 (kD p15 (oMov g0) <|
 kD p16 (o_shr g15 (kV (.int .u64 (.c (.ofNat 8))))) <|
 kD p0 (oMov g16) <|
 kD p17 (oMov g2) <|
 kD p18 (o_add g17 (ci 8)) <|
 kD p2 (oMov g18) <|
 kEnd) <|
 kEnd) <|
 kD p19 (oMov g2) <|
 kD p20 (oMov g0) <|
 kD p21 (oCvti .u8 g20) <|
 kD p22 (oIdxs (kV (.str [0, 1, 2, 2, 3, 3, 3, 3, 4, 4, 4, 4, 4, 4, 4, 4, 5, 5, 5, 5, 5, 5, 5, 5, 5, 5, 5, 5, 5, 5, 5, 5, 6, 6, 6, 6, 6, 6, 6, 6, 6, 6, 6, 6, 6, 6, 6, 6, 6, 6, 6, 6, 6, 6, 6, 6, 6, 6, 6, 6, 6, 6, 6, 6, 7, 7, 7, 7, 7, 7, 7, 7, 7, 7, 7, 7, 7, 7, 7, 7, 7, 7, 7, 7, 7, 7, 7, 7, 7, 7, 7, 7, 7, 7, 7, 7, 7, 7, 7, 7, 7, 7, 7, 7, 7, 7, 7, 7, 7, 7, 7, 7, 7, 7, 7, 7, 7, 7, 7, 7, 7, 7, 7, 7, 7, 7, 7, 7, 8, 8, 8, 8, 8, 8, 8, 8, 8, 8, 8, 8, 8, 8, 8, 8, 8, 8, 8, 8, 8, 8, 8, 8, 8, 8, 8, 8, 8, 8, 8, 8, 8, 8, 8, 8, 8, 8, 8, 8, 8, 8, 8, 8, 8, 8, 8, 8, 8, 8, 8, 8, 8, 8, 8, 8, 8, 8, 8, 8, 8, 8, 8, 8, 8, 8, 8, 8, 8, 8, 8, 8, 8, 8, 8, 8, 8, 8, 8, 8, 8, 8, 8, 8, 8, 8, 8, 8, 8, 8, 8, 8, 8, 8, 8, 8, 8, 8, 8, 8, 8, 8, 8, 8, 8, 8, 8, 8, 8, 8, 8, 8, 8, 8, 8, 8, 8, 8, 8, 8, 8, 8, 8, 8, 8, 8, 8, 8])) g21) <|
 kD p23 (oCvti .i64 g22) <|
 kD p24 (o_add g19 g23) <|
 kD p2 (oMov g24) <|
 kRet,
 (r1 g2)⟩
/-- slices.insertionSortOrdered[string] -/
noncomputable def k271 : FnK := ⟨kD p8 (oMov g1) <|
 kD p9 (o_add g8 (ci 1)) <|
 kD p6 (oMov g9) <|
 kBlock 0 <|
 kLoop <|
 kSeq (kD p10 (oMov g6) <|
 kD p11 (oMov g2) <|
 kD p12 (o_lss g10 g11) <|
 kCond g12 (kEnd) <|
 kExit 0) <|
 kSeq (kBlock 1 <|
 kD p15 (oMov g6) <|
 kD p7 (oMov g15) <|
 kBlock 2 <|
 kLoop <|
 kSeq (kD p16 (oMov g7) <|
 kD p17 (oMov g1) <|
 kD p18 (o_gtr g16 g17) <|
 kD p19 (oMov g18) <|
 kD p20 (oG g19 true (oMov g0)) <|
 kD p21 (oG g19 true (oMov g7)) <|
 kD p22 (oG g19 true (oIdx 1 g20 g21)) <|
 kD p23 (oG g19 true (oLd false 1 g22)) <|
 kD p24 (oG g19 true (oMov g0)) <|
 kD p25 (oG g19 true (oMov g7)) <|
 kD p26 (oG g19 true (o_sub g25 (ci 1))) <|
 kD p27 (oG g19 true (oIdx 1 g24 g26)) <|
 kD p28 (oG g19 true (oLd false 1 g27)) <|
 kCall p29 (cG g19 true (cF 277 (aC g23 (aC g28 aN)))) <|
 kD p30 (oPick g19 g29 (kV (.bool false))) <|
 kCond g30 (kEnd) <|
 kExit 2) <|
 kSeq (kBlock 3 <|
 kD p33 (oMov g0) <|
 kD p34 (oMov g7) <|
 kD p35 (oMov g0) <|
 kD p36 (oMov g7) <|
 kD p37 (o_sub g36 (ci 1)) <|
 kD p38 (oMov g0) <|
 kD p39 (oMov g7) <|
 kD p40 (o_sub g39 (ci 1)) <|
 kD p41 (oIdx 1 g38 g40) <|
 kD p42 (oLd false 1 g41) <|
 kD p43 (oMov g0) <|
 kD p44 (oMov g7) <|
 kD p45 (oIdx 1 g43 g44) <|
 kD p46 (oLd false 1 g45) <|
 kD p47 (oIdx 1 g33 g34) <|
 kD0 (oSt 1 g47 g42) <|
 kD p48 (oIdx 1 g35 g37) <|
 kD0 (oSt 1 g48 g46) <|
 kEnd) <|
 kD p31 (oMov g7) <|
 kD p32 (o_sub g31 (ci 1)) <|
 kD p7 (oMov g32) <|
 kEnd) <|
 kD p13 (oMov g6) <|
 kD p14 (o_add g13 (ci 1)) <|
 kD p6 (oMov g14) <|
 kEnd,
 (rS [])⟩
/-- wimple/head.may -/
noncomputable def k291 : FnK := ⟨kD p3 (oBox g1) <|
 kD p4 (oMov (kV (.bool false))) <|
 kSeq (kD p7 (oLd true 4 g3) <|
 kD p8 (oMov (ci 0)) <|
 kBlock 0 <|
 kLoop <|
 kD p9 (o_lss g8 (ci 4)) <|
 kSeq (kCond g9 (kEnd) <|
 kExit 0) <|
 kSeq (kBlock 1 <|
 kD p10 (oIdxv false 4 1 g7 g8) <|
 kD p6 (oMov g10) <|
 kD p11 (oMov g6) <|
 kD p12 (o_lss g11 (ci 0)) <|
 kD p13 (oMov g12) <|
 kD p14 (oG g13 false (oMov g6)) <|
 kD p15 (oG g13 false (o_gtr g14 (ci 65535))) <|
 kD p16 (oPick g13 (kV (.bool true)) g15) <|
 kCond g16 (kD p4 (oMov (kV (.bool false))) <|
 kRet) <|
 kEnd) <|
 kD p17 (o_add g8 (ci 1)) <|
 kD p8 (oMov g17) <|
 kEnd) <|
 kD p18 (oMov g0) <|
 kD p19 (oNil g18) <|
 kD p20 (oFld 0 g19) <|
 kD p21 (oLd false 1 g20) <|
 kD p22 (o_geq g21 (ci 0)) <|
 kD p23 (oMov g22) <|
 kD p24 (oG g23 true (oMov g0)) <|
 kD p25 (oG g23 true (oNil g24)) <|
 kD p26 (oG g23 true (oFld 0 g25)) <|
 kD p27 (oG g23 true (oLd false 1 g26)) <|
 kD p28 (oG g23 true (o_leq g27 (ci 65535))) <|
 kD p29 (oPick g23 g28 (kV (.bool false))) <|
 kD p30 (oMov g29) <|
 kD p31 (oG g30 true (oMov g0)) <|
 kD p32 (oG g30 true (oNil g31)) <|
 kD p33 (oG g30 true (oFld 2 g32)) <|
 kD p34 (oG g30 true (oLd false 1 g33)) <|
 kD p35 (oG g30 true (o_geq g34 (ci 0))) <|
 kD p36 (oPick g30 g35 (kV (.bool false))) <|
 kD p37 (oMov g36) <|
 kD p38 (oG g37 true (oMov g0)) <|
 kD p39 (oG g37 true (oNil g38)) <|
 kD p40 (oG g37 true (oFld 2 g39)) <|
 kD p41 (oG g37 true (oLd false 1 g40)) <|
 kD p42 (oG g37 true (o_leq g41 (ci 15))) <|
 kD p43 (oPick g37 g42 (kV (.bool false))) <|
 kD p44 (oMov g43) <|
 kD p45 (oG g44 true (oMov g0)) <|
 kD p46 (oG g44 true (oNil g45)) <|
 kD p47 (oG g44 true (oFld 8 g46)) <|
 kD p48 (oG g44 true (oLd false 1 g47)) <|
 kD p49 (oG g44 true (o_geq g48 (ci 0))) <|
 kD p50 (oPick g44 g49 (kV (.bool false))) <|
 kD p51 (oMov g50) <|
 kD p52 (oG g51 true (oMov g0)) <|
 kD p53 (oG g51 true (oNil g52)) <|
 kD p54 (oG g51 true (oFld 8 g53)) <|
 kD p55 (oG g51 true (oLd false 1 g54)) <|
 kD p56 (oG g51 true (o_leq g55 (ci 15))) <|
 kD p57 (oPick g51 g56 (kV (.bool false))) <|
 kD p58 (oMov g57) <|
 kD p59 (oG g58 true (oMov g0)) <|
 kD p60 (oG g58 true (oNil g59)) <|
 kD p61 (oG g58 true (oFld 7 g60)) <|
 kD p62 (oG g58 true (oLd false 1 g61)) <|
 kD p63 (oG g58 true (o_geq g62 (ci 0))) <|
 kD p64 (oPick g58 g63 (kV (.bool false))) <|
 kD p65 (oMov g64) <|
 kD p66 (oG g65 true (oMov g0)) <|
 kD p67 (oG g65 true (oNil g66)) <|
 kD p68 (oG g65 true (oFld 7 g67)) <|
 kD p69 (oG g65 true (oLd false 1 g68)) <|
 kD p70 (oG g65 true (o_leq g69 (ci 7))) <|
 kD p71 (oPick g65 g70 (kV (.bool false))) <|
 kD p4 (oMov g71) <|
 kRet,
 (r1 g4)⟩
/-- wimple/head.bit -/
noncomputable def k292 : FnK := ⟨kD p4 (oMov (ci 0)) <|
 kSeq (kD p5 (oMov g0) <|
 kCond g5 (kD p6 (oMov g1) <|
 kD p7 (o_shl (ci 1) g6) <|
 kD p4 (oMov g7) <|
 kRet) <|
 kEnd) <|
 kD p4 (oMov (ci 0)) <|
 kRet,
 (r1 g4)⟩
/-- wimple/wire.in -/
noncomputable def k293 : FnK := ⟨kD p6 (oMov (kV (.bool false))) <|
 kD p7 (oMov g0) <|
 kD p8 (oMov g1) <|
 kD p9 (o_geq g7 g8) <|
 kD p10 (oMov g9) <|
 kD p11 (oG g10 true (oMov g0)) <|
 kD p12 (oG g10 true (oMov g2)) <|
 kD p13 (oG g10 true (o_leq g11 g12)) <|
 kD p14 (oPick g10 g13 (kV (.bool false))) <|
 kD p6 (oMov g14) <|
 kRet,
 (r1 g6)⟩
/-- wimple/wire.may -/
noncomputable def k294 : FnK := ⟨kD p2 (oMov (kV (.bool false))) <|
 kD p3 (oMov g0) <|
 kD p4 (oNil g3) <|
 kD p5 (oFld 0 g4) <|
 kD p6 (oLd false 1 g5) <|
 kCall p7 (cF 75 (aC g6 aN)) <|
 kD p8 (oMov g7) <|
 kD p9 (oG g8 true (oMov g0)) <|
 kD p10 (oG g8 true (oNil g9)) <|
 kD p11 (oG g8 true (oFld 1 g10)) <|
 kD p12 (oG g8 true (oLd false 1 g11)) <|
 kCall p13 (cG g8 true (cF 293 (aC g12 (aC (ci 1) (aC (ci 65535) aN))))) <|
 kD p14 (oPick g8 g13 (kV (.bool false))) <|
 kD p15 (oMov g14) <|
 kD p16 (oG g15 true (oMov g0)) <|
 kD p17 (oG g15 true (oNil g16)) <|
 kD p18 (oG g15 true (oFld 2 g17)) <|
 kD p19 (oG g15 true (oLd false 1 g18)) <|
 kCall p20 (cG g15 true (cF 293 (aC g19 (aC (ci 0) (aC (ci 65535) aN))))) <|
 kD p21 (oPick g15 g20 (kV (.bool false))) <|
 kD p22 (oMov g21) <|
 kD p23 (oG g22 true (oMov g0)) <|
 kD p24 (oG g22 true (oNil g23)) <|
 kD p25 (oG g22 true (oFld 3 g24)) <|
 kD p26 (oG g22 true (oLd false 1 g25)) <|
 kCall p27 (cG g22 true (cF 293 (aC g26 (aC (ci 0) (aC (ci 4294967295) aN))))) <|
 kD p28 (oPick g22 g27 (kV (.bool false))) <|
 kD p29 (oMov g28) <|
 kD p30 (oG g29 true (oMov g0)) <|
 kD p31 (oG g29 true (oNil g30)) <|
 kD p32 (oG g29 true (oFld 1 g31)) <|
 kD p33 (oG g29 true (oLd false 1 g32)) <|
 kD p34 (oG g29 true (oMov g0)) <|
 kD p35 (oG g29 true (oNil g34)) <|
 kD p36 (oG g29 true (oFld 4 g35)) <|
 kD p37 (oG g29 true (oLd false 1 g36)) <|
 kCall p38 (cG g29 true (cF 206 (aC g33 (aC g37 aN)))) <|
 kD p39 (oPick g29 g38 (kV (.bool false))) <|
 kD p2 (oMov g39) <|
 kRet,
 (r1 g2)⟩
/-- (*wimple/comp.Writer).Raw -/
noncomputable def k295 : FnK := ⟨kD p4 (oMov (ci 0)) <|
 kSeq (kBlock 0 <|
 kD p6 (oMov g0) <|
 kD p7 (oPs (.eqx false .p (.t s6) (.k (.ref .nilptr)))) <|
 kD p5 (oMov g7) <|
 kCond g5 (kD p4 (oMov (ci 1)) <|
 kRet) <|
 kD p9 (oMov g1) <|
 kD p10 (oLenT g9) <|
 kD p11 (oMov g0) <|
 kD p12 (oNil g11) <|
 kD p13 (oFld 0 g12) <|
 kD p14 (oLd false 1 g13) <|
 kD p15 (oLenS g14) <|
 kD p16 (o_sub (ci 4096) g15) <|
 kD p17 (o_gtr g10 g16) <|
 kD p8 (oMov g17) <|
 kCond g8 (kD p4 (oMov (ci 501)) <|
 kRet) <|
 kEnd) <|
 kD p18 (oMov g0) <|
 kD p19 (oMov g0) <|
 kD p20 (oNil g19) <|
 kD p21 (oFld 0 g20) <|
 kD p22 (oLd false 1 g21) <|
 kD p23 (oMov g1) <|
 kD p24 (oApp 1 1 g22 g23 (oEs (.app false false 1 1 (.t s22) (.t s23)))) <|
 kD p25 (oNil g18) <|
 kD p26 (oFld 0 g25) <|
 kD0 (oSt 1 g26 g24) <|
 kD p4 (oMov (ci 0)) <|
 kRet,
 (r1 g4)⟩
/-- (*wimple/comp.Writer).Name -/
noncomputable def k296 : FnK := ⟨kD p4 (oMov (ci 0)) <|
 kSeq (kD p16 (oMov g0) <|
 kD p17 (oPs (.eqx false .p (.t s16) (.k (.ref .nilptr)))) <|
 kCond g17 (kD p4 (oMov (ci 1)) <|
 kRet) <|
 kEnd) <|
 kD p19 (oMov g1) <|
 kCall p20 (cF 129 (aC g19 aN)) <|
 kD p18 (oMov g20) <|
 kD p21 (oExt g18 0) <|
 kD p22 (oExt g18 1) <|
 kD p5 (oMov g21) <|
 kD p6 (oMov g22) <|
 kSeq (kD p23 (oMov g6) <|
 kD p24 (oNot g23) <|
 kCond g24 (kD p4 (oMov (ci 500)) <|
 kRet) <|
 kEnd) <|
 kD p25 (oMov g1) <|
 kD p7 (oMov g25) <|
 kD p26 (oMov g5) <|
 kD p27 (oLenS g26) <|
 kD p28 (o_sub g27 (ci 1)) <|
 kD p8 (oMov g28) <|
 kSeq (kD p29 (oMov g5) <|
 kD p30 (oMov g5) <|
 kD p31 (oLenS g30) <|
 kD p32 (o_sub g31 (ci 1)) <|
 kD p33 (oSlc 1 g29 none (some g32) (oPs (.slc 1 (.t s29) none (some (.t s32)) none))) <|
 kD p34 (oLenS g33) <|
 kD p35 (oMov (ci 0)) <|
 kBlock 0 <|
 kLoop <|
 kD p36 (o_lss g35 g34) <|
 kSeq (kCond g36 (kEnd) <|
 kExit 0) <|
 kSeq (kBlock 1 <|
 kD p37 (oMov g35) <|
 kD p38 (oIdx 1 g33 g35) <|
 kD p39 (oLd false 1 g38) <|
 kD p9 (oMov g37) <|
 kD p10 (oMov g39) <|
 kD p41 (oMov g0) <|
 kD p42 (oNil g41) <|
 kD p43 (oFld 1 g42) <|
 kD p44 (oLd false 1 g43) <|
 kD p45 (oMov g1) <|
 kD p46 (oMov g10) <|
 kD p47 (oSlc 0 g45 (some g46) none (oPs (.slc 0 (.t s45) (some (.t s46)) none none))) <|
 kD p48 (oRs (.lkp ⟨false, [.str]⟩ true (vi 0) (.t s44) (.t s47))) <|
 kD p40 (oMov g48) <|
 kD p49 (oExt g40 0) <|
 kD p50 (oExt g40 1) <|
 kD p11 (oMov g49) <|
 kD p12 (oMov g50) <|
 kD p51 (oMov g12) <|
 kCond g51 (kD p52 (oMov g1) <|
 kD p53 (oMov g10) <|
 kD p54 (oSlc 0 g52 none (some g53) (oPs (.slc 0 (.t s52) none (some (.t s53)) none))) <|
 kD p55 (oMov g11) <|
 kD p56 (o_or (ci 49152) g55) <|
 kD p59 (oMov g9) <|
 kCall p57 (cF 256 (aC g56 aN)) <|
 kD p58 (o_add g54 g57) <|
 kD p7 (oMov g58) <|
 kD p8 (oMov g59) <|
 kExit 0) <|
 kEnd) <|
 kD p60 (o_add g35 (ci 1)) <|
 kD p35 (oMov g60) <|
 kEnd) <|
 kSeq (kD p61 (oMov g7) <|
 kD p62 (oLenT g61) <|
 kD p63 (oMov g0) <|
 kD p64 (oNil g63) <|
 kD p65 (oFld 0 g64) <|
 kD p66 (oLd false 1 g65) <|
 kD p67 (oLenS g66) <|
 kD p68 (o_sub (ci 4096) g67) <|
 kD p69 (o_gtr g62 g68) <|
 kCond g69 (kD p4 (oMov (ci 501)) <|
 kRet) <|
 kEnd) <|
 kSeq (kD p70 (oMov g5) <|
 kD p71 (oMov g8) <|
 kD p72 (oSlc 1 g70 none (some g71) (oPs (.slc 1 (.t s70) none (some (.t s71)) none))) <|
 kD p73 (oLenS g72) <|
 kD p74 (oMov (ci 0)) <|
 kBlock 2 <|
 kLoop <|
 kD p75 (o_lss g74 g73) <|
 kSeq (kCond g75 (kEnd) <|
 kExit 2) <|
 kSeq (kBlock 3 <|
 kD p76 (oIdx 1 g72 g74) <|
 kD p77 (oLd false 1 g76) <|
 kD p14 (oMov g77) <|
 kD p78 (oMov g0) <|
 kD p79 (oNil g78) <|
 kD p80 (oFld 0 g79) <|
 kD p81 (oLd false 1 g80) <|
 kD p82 (oLenS g81) <|
 kD p83 (oMov g14) <|
 kD p84 (o_add g82 g83) <|
 kD p15 (oMov g84) <|
 kD p85 (oMov g15) <|
 kD p86 (o_leq g85 (ci 16383)) <|
 kCond g86 (kD p87 (oMov g0) <|
 kD p88 (oNil g87) <|
 kD p89 (oFld 1 g88) <|
 kD p90 (oLd false 1 g89) <|
 kD p91 (oMov g1) <|
 kD p92 (oMov g14) <|
 kD p93 (oSlc 0 g91 (some g92) none (oPs (.slc 0 (.t s91) (some (.t s92)) none none))) <|
 kD p94 (oMov g15) <|
 kD0 (oEs (.mup ⟨false, [.str]⟩ (.t s90) (.t s93) (.t s94))) <|
 kEnd) <|
 kEnd) <|
 kD p95 (o_add g74 (ci 1)) <|
 kD p74 (oMov g95) <|
 kEnd) <|
 kD p96 (oMov g0) <|
 kD p97 (oMov g0) <|
 kD p98 (oNil g97) <|
 kD p99 (oFld 0 g98) <|
 kD p100 (oLd false 1 g99) <|
 kD p101 (oMov g7) <|
 kD p102 (oApp 1 1 g100 g101 (oEs (.app false false 1 1 (.t s100) (.t s101)))) <|
 kD p103 (oNil g96) <|
 kD p104 (oFld 0 g103) <|
 kD0 (oSt 1 g104 g102) <|
 kD p4 (oMov (ci 0)) <|
 kRet,
 (r1 g4)⟩
/-- wimple/opt.in -/
noncomputable def k297 : FnK := ⟨kD p4 (oMov (kV (.bool false))) <|
 kD p5 (oMov g0) <|
 kD p6 (o_geq g5 (ci 0)) <|
 kD p7 (oMov g6) <|
 kD p8 (oG g7 true (oMov g0)) <|
 kD p9 (oG g7 true (oMov g1)) <|
 kD p10 (oG g7 true (o_leq g8 g9)) <|
 kD p11 (oPick g7 g10 (kV (.bool false))) <|
 kD p4 (oMov g11) <|
 kRet,
 (r1 g4)⟩
end KK
end Den
