/- Functions of the program as closures. -/
import Derived.Test.YtlldjadlhgonbaaGreatTabA
set_option linter.unusedVariables false
set_option linter.unusedSimpArgs false
set_option autoImplicit false
set_option maxRecDepth 100000
namespace Den
open Go
namespace KK
/-- wimple/octet.number -/
noncomputable def k232 : FnK := ⟨kD p6 (oMov (ci 0)) <|
 kD p7 (oMov (ci 0)) <|
 kD p8 (oMov (ci 0)) <|
 kSeq (kD p11 (oMov g1) <|
 kD p12 (o_lss g11 (ci 0)) <|
 kD p13 (oMov g12) <|
 kD p14 (oG g13 false (oMov g1)) <|
 kD p15 (oG g13 false (oMov g0)) <|
 kD p16 (oG g13 false (oLenT g15)) <|
 kD p17 (oG g13 false (o_gtr g14 g16)) <|
 kD p18 (oPick g13 (kV (.bool true)) g17) <|
 kD p19 (oMov g18) <|
 kD p20 (oG g19 false (oMov g0)) <|
 kD p21 (oG g19 false (oLenT g20)) <|
 kD p22 (oG g19 false (oMov g1)) <|
 kD p23 (oG g19 false (o_sub g21 g22)) <|
 kD p24 (oG g19 false (oMov g2)) <|
 kD p25 (oG g19 false (o_lss g23 g24)) <|
 kD p26 (oPick g19 (kV (.bool true)) g25) <|
 kCond g26 (kD p6 (oMov (ci 0)) <|
 kD p7 (oMov (ci 0)) <|
 kD p8 (oMov (ci 300)) <|
 kRet) <|
 kEnd) <|
 kD p9 (oMov (ci 0)) <|
 kSeq (kD p27 (oMov g2) <|
 kD p28 (oMov (ci 0)) <|
 kBlock 0 <|
 kLoop <|
 kD p29 (o_lss g28 g27) <|
 kSeq (kCond g29 (kEnd) <|
 kExit 0) <|
 kSeq (kBlock 1 <|
 kD p30 (oMov g28) <|
 kD p10 (oMov g30) <|
 kD p31 (oMov g9) <|
 kD p32 (o_shl g31 (kV (.int .u64 (.c (.ofNat 8))))) <|
 kD p33 (oMov g0) <|
 kD p34 (oMov g1) <|
 kD p35 (oMov g10) <|
 kD p36 (o_add g34 g35) <|
 kD p37 (oIdxs g33 g36) <|
 kD p38 (oCvti .i64 g37) <|
 kD p39 (o_or g32 g38) <|
 kD p9 (oMov g39) <|
 kEnd) <|
 kD p40 (o_add g28 (ci 1)) <|
 kD p28 (oMov g40) <|
 kEnd) <|
 kD p41 (oMov g9) <|
 kD p42 (oMov g1) <|
 kD p43 (oMov g2) <|
 kD p44 (o_add g42 g43) <|
 kD p6 (oMov g41) <|
 kD p7 (oMov g44) <|
 kD p8 (oMov (ci 0)) <|
 kRet,
 (r3 g6 g7 g8)⟩
/-- wimple/comp.shape -/
noncomputable def k233 : FnK := ⟨kD p2 (oMov (ci 0)) <|
 kD p3 (oMov (ci 0)) <|
 kD p4 (oMov (ci 0)) <|
 kSeq (kD p5 (oMov g0) <|
 kBlock 0 <|
 kSeq (kD p7 (o_eql g5 (ci 2)) <|
 kD p6 (oMov g7) <|
 kCond g6 (kEnd) <|
 kD p8 (o_eql g5 (ci 5)) <|
 kD p6 (oMov g8) <|
 kCond g6 (kEnd) <|
 kD p9 (o_eql g5 (ci 12)) <|
 kD p6 (oMov g9) <|
 kEnd) <|
 kCond g6 (kD p2 (oMov (ci 0)) <|
 kD p3 (oMov (ci 1)) <|
 kD p4 (oMov (ci 0)) <|
 kRet) <|
 kD p11 (o_eql g5 (ci 15)) <|
 kD p10 (oMov g11) <|
 kCond g10 (kD p2 (oMov (ci 2)) <|
 kD p3 (oMov (ci 1)) <|
 kD p4 (oMov (ci 0)) <|
 kRet) <|
 kD p13 (o_eql g5 (ci 6)) <|
 kD p12 (oMov g13) <|
 kCond g12 (kD p2 (oMov (ci 0)) <|
 kD p3 (oMov (ci 2)) <|
 kD p4 (oMov (ci 20)) <|
 kRet) <|
 kEnd) <|
 kD p2 (oMov (ci 0)) <|
 kD p3 (oMov (ci 0)) <|
 kD p4 (oMov (ci 0)) <|
 kRet,
 (r3 g2 g3 g4)⟩
/-- wimple/comp.names -/
noncomputable def k234 : FnK := ⟨kD p6 (oMov (kV (.str []))) <|
 kD p7 (oMov (ci 0)) <|
 kD p8 (oMov (ci 0)) <|
 kD p9 (oMov (kV (.str []))) <|
 kSeq (kD p13 (oMov g2) <|
 kD p14 (oMov (ci 0)) <|
 kBlock 0 <|
 kLoop <|
 kD p15 (o_lss g14 g13) <|
 kSeq (kCond g15 (kEnd) <|
 kExit 0) <|
 kSeq (kBlock 1 <|
 kD p17 (oMov g0) <|
 kD p18 (oMov g1) <|
 kCall p19 (cF 186 (aC g17 (aC g18 aN))) <|
 kD p16 (oMov g19) <|
 kD p20 (oExt g16 0) <|
 kD p21 (oExt g16 1) <|
 kD p22 (oExt g16 2) <|
 kD p10 (oMov g20) <|
 kD p11 (oMov g21) <|
 kD p12 (oMov g22) <|
 kSeq (kD p23 (oMov g12) <|
 kD p24 (o_neq g23 (ci 0)) <|
 kCond g24 (kD p25 (oMov g12) <|
 kD p6 (oMov (kV (.str []))) <|
 kD p7 (oMov (ci 0)) <|
 kD p8 (oMov g25) <|
 kRet) <|
 kEnd) <|
 kD p26 (oMov g9) <|
 kD p27 (oMov g10) <|
 kD p28 (o_add g26 g27) <|
 kD p9 (oMov g28) <|
 kD p29 (oMov g11) <|
 kD p1 (oMov g29) <|
 kEnd) <|
 kD p30 (o_add g14 (ci 1)) <|
 kD p14 (oMov g30) <|
 kEnd) <|
 kD p31 (oMov g9) <|
 kD p32 (oMov g1) <|
 kD p6 (oMov g31) <|
 kD p7 (oMov g32) <|
 kD p8 (oMov (ci 0)) <|
 kRet,
 (r3 g6 g7 g8)⟩
/-- (*wimple/class.asking).has -/
noncomputable def k235 : FnK := ⟨kD p3 (oBox g0) <|
 kD p5 (oBox g2) <|
 kD p6 (oMov (kV (.bool false))) <|
 kD p7 (oMov g1) <|
 kD p8 (oPs (.mkf 259 [] [(.t s5), (.t s3)])) <|
 kCall p9 (cF 236 (aC g7 (aC g8 aN))) <|
 kD p6 (oMov g9) <|
 kRet,
 (r1 g6)⟩
/-- slices.ContainsFunc[[]wimple/api.Rr,wimple/api.Rr] -/
noncomputable def k236 : FnK := ⟨kD p4 (oMov (kV (.bool false))) <|
 kD p5 (oMov g0) <|
 kD p6 (oMov g1) <|
 kCall p7 (cF 260 (aC g5 (aC g6 aN))) <|
 kD p8 (o_geq g7 (ci 0)) <|
 kD p4 (oMov g8) <|
 kRet,
 (r1 g4)⟩
/-- slices.pdqsortCmpFunc[string] -/
noncomputable def k238 : FnK := ⟨kD p10 (oMov (kV (.bool true))) <|
 kD p11 (oMov (kV (.bool true))) <|
 kBlock 0 <|
 kLoop <|
 kBlock 1 <|
 kD p21 (oMov g2) <|
 kD p22 (oMov g1) <|
 kD p23 (o_sub g21 g22) <|
 kD p12 (oMov g23) <|
 kSeq (kD p24 (oMov g12) <|
 kD p25 (o_leq g24 (ci 12)) <|
 kCond g25 (kD p26 (oMov g0) <|
 kD p27 (oMov g1) <|
 kD p28 (oMov g2) <|
 kD p29 (oMov g4) <|
 kCall p30 (cF 261 (aC g26 (aC g27 (aC g28 (aC g29 aN))))) <|
 kRet) <|
 kEnd) <|
 kSeq (kD p31 (oMov g3) <|
 kD p32 (o_eql g31 (ci 0)) <|
 kCond g32 (kD p33 (oMov g0) <|
 kD p34 (oMov g1) <|
 kD p35 (oMov g2) <|
 kD p36 (oMov g4) <|
 kCall p37 (cF 262 (aC g33 (aC g34 (aC g35 (aC g36 aN))))) <|
 kRet) <|
 kEnd) <|
 kSeq (kD p38 (oMov g10) <|
 kD p39 (oNot g38) <|
 kCond g39 (kD p40 (oMov g0) <|
 kD p41 (oMov g1) <|
 kD p42 (oMov g2) <|
 kD p43 (oMov g4) <|
 kCall p44 (cF 263 (aC g40 (aC g41 (aC g42 (aC g43 aN))))) <|
 kD p45 (oMov g3) <|
 kD p46 (o_sub g45 (ci 1)) <|
 kD p3 (oMov g46) <|
 kEnd) <|
 kEnd) <|
 kD p48 (oMov g0) <|
 kD p49 (oMov g1) <|
 kD p50 (oMov g2) <|
 kD p51 (oMov g4) <|
 kCall p52 (cF 264 (aC g48 (aC g49 (aC g50 (aC g51 aN))))) <|
 kD p47 (oMov g52) <|
 kD p53 (oExt g47 0) <|
 kD p54 (oExt g47 1) <|
 kD p13 (oMov g53) <|
 kD p14 (oMov g54) <|
 kSeq (kD p55 (oMov g14) <|
 kD p56 (o_eql g55 (ci 2)) <|
 kCond g56 (kD p57 (oMov g0) <|
 kD p58 (oMov g1) <|
 kD p59 (oMov g2) <|
 kD p60 (oMov g4) <|
 kCall p61 (cF 265 (aC g57 (aC g58 (aC g59 (aC g60 aN))))) <|
 kD p62 (oMov g2) <|
 kD p63 (o_sub g62 (ci 1)) <|
 kD p64 (oMov g13) <|
 kD p65 (oMov g1) <|
 kD p66 (o_sub g64 g65) <|
 kD p67 (o_sub g63 g66) <|
 kD p13 (oMov g67) <|
 kD p14 (oMov (ci 1)) <|
 kEnd) <|
 kEnd) <|
 kSeq (kD p68 (oMov g10) <|
 kD p69 (oMov g68) <|
 kD p70 (oG g69 true (oMov g11)) <|
 kD p71 (oPick g69 g70 (kV (.bool false))) <|
 kD p72 (oMov g71) <|
 kD p73 (oG g72 true (oMov g14)) <|
 kD p74 (oG g72 true (o_eql g73 (ci 1))) <|
 kD p75 (oPick g72 g74 (kV (.bool false))) <|
 kCond g75 (kD p76 (oMov g0) <|
 kD p77 (oMov g1) <|
 kD p78 (oMov g2) <|
 kD p79 (oMov g4) <|
 kCall p80 (cF 266 (aC g76 (aC g77 (aC g78 (aC g79 aN))))) <|
 kCond g80 (kRet) <|
 kEnd) <|
 kEnd) <|
 kSeq (kD p81 (oMov g1) <|
 kD p82 (o_gtr g81 (ci 0)) <|
 kD p83 (oMov g82) <|
 kD p84 (oG g83 true (oMov g4)) <|
 kD p85 (oG g83 true (oMov g0)) <|
 kD p86 (oG g83 true (oMov g1)) <|
 kD p87 (oG g83 true (o_sub g86 (ci 1))) <|
 kD p88 (oG g83 true (oIdx 1 g85 g87)) <|
 kD p89 (oG g83 true (oLd false 1 g88)) <|
 kD p90 (oG g83 true (oMov g0)) <|
 kD p91 (oG g83 true (oMov g13)) <|
 kD p92 (oG g83 true (oIdx 1 g90 g91)) <|
 kD p93 (oG g83 true (oLd false 1 g92)) <|
 kCall p94 (cG g83 true (cV g84 (aC g89 (aC g93 aN)))) <|
 kD p95 (oG g83 true (o_lss g94 (ci 0))) <|
 kD p96 (oG g83 true (oNot g95)) <|
 kD p97 (oPick g83 g96 (kV (.bool false))) <|
 kCond g97 (kD p98 (oMov g0) <|
 kD p99 (oMov g1) <|
 kD p100 (oMov g2) <|
 kD p101 (oMov g13) <|
 kD p102 (oMov g4) <|
 kCall p103 (cF 267 (aC g98 (aC g99 (aC g100 (aC g101 (aC g102 aN)))))) <|
 kD p15 (oMov g103) <|
 kD p104 (oMov g15) <|
 kD p1 (oMov g104) <|
 kExit 1) <|
 kEnd) <|
 kD p106 (oMov g0) <|
 kD p107 (oMov g1) <|
 kD p108 (oMov g2) <|
 kD p109 (oMov g13) <|
 kD p110 (oMov g4) <|
 kCall p111 (cF 268 (aC g106 (aC g107 (aC g108 (aC g109 (aC g110 aN)))))) <|
 kD p105 (oMov g111) <|
 kD p112 (oExt g105 0) <|
 kD p113 (oExt g105 1) <|
 kD p16 (oMov g112) <|
 kD p17 (oMov g113) <|
 kD p114 (oMov g17) <|
 kD p11 (oMov g114) <|
 kD p115 (oMov g16) <|
 kD p116 (oMov g1) <|
 kD p117 (o_sub g115 g116) <|
 kD p118 (oMov g2) <|
 kD p119 (oMov g16) <|
 kD p120 (o_sub g118 g119) <|
 kD p18 (oMov g117) <|
 kD p19 (oMov g120) <|
 kD p121 (oMov g12) <|
 kD p122 (o_quo g121 (ci 8)) <|
 kD p20 (oMov g122) <|
 kD p123 (oMov g18) <|
 kD p124 (oMov g19) <|
 kD p125 (o_lss g123 g124) <|
 kCond g125 (kD p126 (oMov g18) <|
 kD p127 (oMov g20) <|
 kD p128 (o_geq g126 g127) <|
 kD p10 (oMov g128) <|
 kD p129 (oMov g0) <|
 kD p130 (oMov g1) <|
 kD p131 (oMov g16) <|
 kD p132 (oMov g3) <|
 kD p133 (oMov g4) <|
 kCall p134 (cF 238 (aC g129 (aC g130 (aC g131 (aC g132 (aC g133 aN)))))) <|
 kD p135 (oMov g16) <|
 kD p136 (o_add g135 (ci 1)) <|
 kD p1 (oMov g136) <|
 kEnd) <|
 kD p137 (oMov g19) <|
 kD p138 (oMov g20) <|
 kD p139 (o_geq g137 g138) <|
 kD p10 (oMov g139) <|
 kD p140 (oMov g0) <|
 kD p141 (oMov g16) <|
 kD p142 (o_add g141 (ci 1)) <|
 kD p143 (oMov g2) <|
 kD p144 (oMov g3) <|
 kD p145 (oMov g4) <|
 kCall p146 (cF 238 (aC g140 (aC g142 (aC g143 (aC g144 (aC g145 aN)))))) <|
 kD p147 (oMov g16) <|
 kD p2 (oMov g147) <|
 kEnd,
 (rS [])⟩
/-- math/bits.Len -/
noncomputable def k239 : FnK := ⟨kD p2 (oMov (ci 0)) <|
 kSeq (kCond (kV (.bool false)) (kD p3 (oMov g0) <|
 kD p4 (oCvti .u32 g3) <|
 kCall p5 (cF 269 (aC g4 aN)) <|
 kD p2 (oMov g5) <|
 kRet) <|
 kEnd) <|
 kD p6 (oMov g0) <|
 kCall p7 (cF 270 (aC g6 aN)) <|
 kD p2 (oMov g7) <|
 kRet,
 (r1 g2)⟩
/-- cmp.isNaN[string] -/
noncomputable def k241 : FnK := ⟨kD p2 (oMov (kV (.bool false))) <|
 kD p3 (oMov g0) <|
 kD p4 (oMov g0) <|
 kD p5 (o_neq g3 g4) <|
 kD p2 (oMov g5) <|
 kRet,
 (r1 g2)⟩
/-- wimple/head.Put -/
noncomputable def k250 : FnK := ⟨kD p2 (oBox g0) <|
 kD p3 (oBox g1) <|
 kD p4 (oMov (kV (.str []))) <|
 kD p5 (oMov (ci 0)) <|
 kSeq (kD p10 (oLd true 4 g3) <|
 kCall p11 (cF 291 (aC g2 (aC g10 aN))) <|
 kD p12 (oNot g11) <|
 kCond g12 (kD p4 (oMov (kV (.str []))) <|
 kD p5 (oMov (ci 600)) <|
 kRet) <|
 kEnd) <|
 kD p13 (oFld 1 g2) <|
 kD p14 (oLd false 1 g13) <|
 kD p16 (oFld 2 g2) <|
 kD p17 (oLd false 1 g16) <|
 kD p18 (o_shl g17 (kV (.int .u64 (.c (.ofNat 11))))) <|
 kD p20 (oFld 3 g2) <|
 kD p21 (oLd false 1 g20) <|
 kD p24 (oFld 4 g2) <|
 kD p25 (oLd false 1 g24) <|
 kD p28 (oFld 5 g2) <|
 kD p29 (oLd false 1 g28) <|
 kD p32 (oFld 6 g2) <|
 kD p33 (oLd false 1 g32) <|
 kD p36 (oFld 7 g2) <|
 kD p37 (oLd false 1 g36) <|
 kD p38 (o_shl g37 (kV (.int .u64 (.c (.ofNat 4))))) <|
 kD p40 (oFld 8 g2) <|
 kD p41 (oLd false 1 g40) <|
 kCall p15 (cF 292 (aC g14 (aC (ci 15) aN))) <|
 kChk g41 (oLd false 1 g40) <|
 kChk g37 (oLd false 1 g36) <|
 kChk g33 (oLd false 1 g32) <|
 kChk g29 (oLd false 1 g28) <|
 kChk g25 (oLd false 1 g24) <|
 kChk g21 (oLd false 1 g20) <|
 kChk g17 (oLd false 1 g16) <|
 kD p19 (o_or g15 g18) <|
 kCall p22 (cF 292 (aC g21 (aC (ci 10) aN))) <|
 kChk g41 (oLd false 1 g40) <|
 kChk g37 (oLd false 1 g36) <|
 kChk g33 (oLd false 1 g32) <|
 kChk g29 (oLd false 1 g28) <|
 kChk g25 (oLd false 1 g24) <|
 kChk g17 (oLd false 1 g16) <|
 kD p23 (o_or g19 g22) <|
 kCall p26 (cF 292 (aC g25 (aC (ci 9) aN))) <|
 kChk g41 (oLd false 1 g40) <|
 kChk g37 (oLd false 1 g36) <|
 kChk g33 (oLd false 1 g32) <|
 kChk g29 (oLd false 1 g28) <|
 kChk g17 (oLd false 1 g16) <|
 kD p27 (o_or g23 g26) <|
 kCall p30 (cF 292 (aC g29 (aC (ci 8) aN))) <|
 kChk g41 (oLd false 1 g40) <|
 kChk g37 (oLd false 1 g36) <|
 kChk g33 (oLd false 1 g32) <|
 kChk g17 (oLd false 1 g16) <|
 kD p31 (o_or g27 g30) <|
 kCall p34 (cF 292 (aC g33 (aC (ci 7) aN))) <|
 kChk g41 (oLd false 1 g40) <|
 kChk g37 (oLd false 1 g36) <|
 kChk g17 (oLd false 1 g16) <|
 kD p35 (o_or g31 g34) <|
 kD p39 (o_or g35 g38) <|
 kD p42 (o_or g39 g41) <|
 kD p6 (oMov g42) <|
 kD p43 (oFld 0 g2) <|
 kD p44 (oLd false 1 g43) <|
 kCall p45 (cF 256 (aC g44 aN)) <|
 kD p46 (oMov g6) <|
 kCall p47 (cF 256 (aC g46 aN)) <|
 kD p48 (o_add g45 g47) <|
 kD p7 (oMov g48) <|
 kSeq (kD p49 (oLd true 4 g3) <|
 kD p50 (oMov (ci 0)) <|
 kBlock 0 <|
 kLoop <|
 kD p51 (o_lss g50 (ci 4)) <|
 kSeq (kCond g51 (kEnd) <|
 kExit 0) <|
 kSeq (kBlock 1 <|
 kD p52 (oIdxv false 4 1 g49 g50) <|
 kD p9 (oMov g52) <|
 kD p53 (oMov g7) <|
 kD p54 (oMov g9) <|
 kCall p55 (cF 256 (aC g54 aN)) <|
 kD p56 (o_add g53 g55) <|
 kD p7 (oMov g56) <|
 kEnd) <|
 kD p57 (o_add g50 (ci 1)) <|
 kD p50 (oMov g57) <|
 kEnd) <|
 kD p58 (oMov g7) <|
 kD p4 (oMov g58) <|
 kD p5 (oMov (ci 0)) <|
 kRet,
 (r2 g4 g5)⟩
/-- wimple/wire.fits -/
noncomputable def k251 : FnK := ⟨kD p2 (oMov (kV (.bool false))) <|
 kSeq (kD p8 (oMov g0) <|
 kD p9 (oNil g8) <|
 kD p10 (oFld 9 g9) <|
 kD p11 (oLd false 1 g10) <|
 kD p12 (oLenS g11) <|
 kD p13 (o_gtr g12 (ci 64)) <|
 kCond g13 (kD p2 (oMov (kV (.bool false))) <|
 kRet) <|
 kEnd) <|
 kSeq (kD p14 (oMov g0) <|
 kD p15 (oNil g14) <|
 kD p16 (oFld 9 g15) <|
 kD p17 (oLd false 1 g16) <|
 kD p18 (oLenS g17) <|
 kD p19 (oMov (ci 0)) <|
 kBlock 0 <|
 kLoop <|
 kD p20 (o_lss g19 g18) <|
 kSeq (kCond g20 (kEnd) <|
 kExit 0) <|
 kSeq (kBlock 1 <|
 kD p21 (oIdx 3 g17 g19) <|
 kD p22 (oLd true 3 g21) <|
 kD p4 (oAlloc [(.str []), (vi 0), (vi 0)]) <|
 kD0 (oSt 3 g4 g22) <|
 kD p23 (oFld 0 g4) <|
 kD p24 (oLd false 1 g23) <|
 kCall p25 (cF 75 (aC g24 aN)) <|
 kD p26 (oNot g25) <|
 kD p27 (oMov g26) <|
 kD p28 (oG g27 false (oFld 1 g4)) <|
 kD p29 (oG g27 false (oLd false 1 g28)) <|
 kCall p30 (cG g27 false (cF 293 (aC g29 (aC (ci 1) (aC (ci 65535) aN))))) <|
 kD p31 (oG g27 false (oNot g30)) <|
 kD p32 (oPick g27 (kV (.bool true)) g31) <|
 kD p33 (oMov g32) <|
 kD p34 (oG g33 false (oFld 2 g4)) <|
 kD p35 (oG g33 false (oLd false 1 g34)) <|
 kCall p36 (cG g33 false (cF 293 (aC g35 (aC (ci 0) (aC (ci 65535) aN))))) <|
 kD p37 (oG g33 false (oNot g36)) <|
 kD p38 (oPick g33 (kV (.bool true)) g37) <|
 kCond g38 (kD p2 (oMov (kV (.bool false))) <|
 kRet) <|
 kEnd) <|
 kD p39 (o_add g19 (ci 1)) <|
 kD p19 (oMov g39) <|
 kEnd) <|
 kSeq (kD p40 (oMov g0) <|
 kD p41 (oNil g40) <|
 kD p42 (oFld 10 g41) <|
 kD p43 (oLd false 1 g42) <|
 kD p44 (oMov g0) <|
 kD p45 (oNil g44) <|
 kD p46 (oFld 11 g45) <|
 kD p47 (oLd false 1 g46) <|
 kD p48 (oMov g0) <|
 kD p49 (oNil g48) <|
 kD p50 (oFld 12 g49) <|
 kD p51 (oLd false 1 g50) <|
 kD p52 (oBuild [(.ref .nilsl), (.ref .nilsl), (.ref .nilsl)] (bC 0 1 g43 (bC 1 1 g47 (bC 2 1 g51 bN)))) <|
 kD p53 (oMov (ci 0)) <|
 kBlock 2 <|
 kLoop <|
 kD p54 (o_lss g53 (ci 3)) <|
 kSeq (kCond g54 (kEnd) <|
 kExit 2) <|
 kSeq (kBlock 3 <|
 kD p55 (oIdxv false 3 1 g52 g53) <|
 kD p6 (oMov g55) <|
 kSeq (kD p56 (oMov g6) <|
 kD p57 (oLenS g56) <|
 kD p58 (o_gtr g57 (ci 64)) <|
 kCond g58 (kD p2 (oMov (kV (.bool false))) <|
 kRet) <|
 kEnd) <|
 kD p59 (oMov g6) <|
 kD p60 (oLenS g59) <|
 kD p61 (oMov (ci 0)) <|
 kBlock 4 <|
 kLoop <|
 kD p62 (o_lss g61 g60) <|
 kSeq (kCond g62 (kEnd) <|
 kExit 4) <|
 kSeq (kBlock 5 <|
 kD p63 (oMov g61) <|
 kD p7 (oMov g63) <|
 kD p64 (oMov g6) <|
 kD p65 (oMov g7) <|
 kD p66 (oIdx 5 g64 g65) <|
 kCall p67 (cF 294 (aC g66 aN)) <|
 kD p68 (oNot g67) <|
 kCond g68 (kD p2 (oMov (kV (.bool false))) <|
 kRet) <|
 kEnd) <|
 kD p69 (o_add g61 (ci 1)) <|
 kD p61 (oMov g69) <|
 kEnd) <|
 kD p70 (o_add g53 (ci 1)) <|
 kD p53 (oMov g70) <|
 kEnd) <|
 kD p2 (oMov (kV (.bool true))) <|
 kRet,
 (r1 g2)⟩
/-- wimple/comp.New -/
noncomputable def k252 : FnK := ⟨kD p0 (oMov (kV (.ref .nilptr))) <|
 kD p1 (oAs .mkm) <|
 kD p2 (oBuild [(.ref .nilsl), (.ref .mapn)] (bC 1 1 g1 bN)) <|
 kD p3 (oBox g2) <|
 kD p0 (oMov g3) <|
 kRet,
 (r1 g0)⟩
/-- (*wimple/wire.writer).raw -/
noncomputable def k253 : FnK := ⟨kD p4 (oMov g0) <|
 kD p5 (oMov g0) <|
 kD p6 (oNil g5) <|
 kD p7 (oFld 0 g6) <|
 kD p8 (oLd false 1 g7) <|
 kD p9 (oMov g1) <|
 kCall p10 (cF 295 (aC g8 (aC g9 aN))) <|
 kD p11 (o_neq g10 (ci 0)) <|
 kD p12 (oMov g11) <|
 kD p13 (oG g12 false (oMov g0)) <|
 kD p14 (oG g12 false (oNil g13)) <|
 kD p15 (oG g12 false (oFld 1 g14)) <|
 kD p16 (oG g12 false (oLd false 1 g15)) <|
 kD p17 (oPick g12 (kV (.bool true)) g16) <|
 kD p18 (oNil g4) <|
 kD p19 (oFld 1 g18) <|
 kD0 (oSt 1 g19 g17) <|
 kEnd,
 (rS [])⟩
/-- (*wimple/wire.writer).name -/
noncomputable def k254 : FnK := ⟨kD p8 (oMov g0) <|
 kD p9 (oMov g0) <|
 kD p10 (oNil g9) <|
 kD p11 (oFld 0 g10) <|
 kD p12 (oLd false 1 g11) <|
 kD p13 (oMov g1) <|
 kCall p14 (cF 296 (aC g12 (aC g13 aN))) <|
 kD p15 (o_neq g14 (ci 0)) <|
 kD p16 (oMov g15) <|
 kD p17 (oG g16 false (oMov g0)) <|
 kD p18 (oG g16 false (oNil g17)) <|
 kD p19 (oG g16 false (oFld 1 g18)) <|
 kD p20 (oG g16 false (oLd false 1 g19)) <|
 kD p21 (oPick g16 (kV (.bool true)) g20) <|
 kD p22 (oNil g8) <|
 kD p23 (oFld 1 g22) <|
 kD0 (oSt 1 g23 g21) <|
 kD p24 (oMov g0) <|
 kD p25 (oMov g2) <|
 kCall p26 (cF 256 (aC g25 aN)) <|
 kD p27 (oMov g3) <|
 kCall p28 (cF 256 (aC g27 aN)) <|
 kD p29 (o_add g26 g28) <|
 kCall p30 (cF 253 (aC g24 (aC g29 aN))) <|
 kEnd,
 (rS [])⟩
/-- wimple/octet.Put32 -/
noncomputable def k255 : FnK := ⟨kD p2 (oMov (kV (.str []))) <|
 kD p3 (oMov g0) <|
 kD p4 (o_shr g3 (kV (.int .u64 (.c (.ofNat 16))))) <|
 kCall p5 (cF 256 (aC g4 aN)) <|
 kD p6 (oMov g0) <|
 kCall p7 (cF 256 (aC g6 aN)) <|
 kD p8 (o_add g5 g7) <|
 kD p2 (oMov g8) <|
 kRet,
 (r1 g2)⟩
/-- wimple/octet.Put16 -/
noncomputable def k256 : FnK := ⟨kD p2 (oMov (kV (.str []))) <|
 kD p3 (oMov g0) <|
 kD p4 (o_shr g3 (kV (.int .u64 (.c (.ofNat 8))))) <|
 kD p5 (oCvti .u8 g4) <|
 kD p6 (oMov g0) <|
 kD p7 (oCvti .u8 g6) <|
 kD p8 (oBsl1 1 1 2 (lC g5 (lC g7 lN))) <|
 kD p9 (oCvts g8 (oRs (.cvts (.t s8)))) <|
 kD p2 (oMov g9) <|
 kRet,
 (r1 g2)⟩
/-- (*wimple/comp.Writer).All -/
noncomputable def k257 : FnK := ⟨kD p2 (oMov (kV (.str []))) <|
 kSeq (kD p3 (oMov g0) <|
 kD p4 (oPs (.eqx false .p (.t s3) (.k (.ref .nilptr)))) <|
 kCond g4 (kD p2 (oMov (kV (.str []))) <|
 kRet) <|
 kEnd) <|
 kD p5 (oMov g0) <|
 kD p6 (oNil g5) <|
 kD p7 (oFld 0 g6) <|
 kD p8 (oLd false 1 g7) <|
 kD p9 (oCvts g8 (oRs (.cvts (.t s8)))) <|
 kD p2 (oMov g9) <|
 kRet,
 (r1 g2)⟩
/-- wimple/opt.Put -/
noncomputable def k258 : FnK := ⟨kD p1 (oBox g0) <|
 kD p2 (oAlloc [(.str []), (vi 0), (vi 0), (vi 0), (.str [])]) <|
 kD p3 (oMov (ci 0)) <|
 kSeq (kD p8 (oFld 0 g1) <|
 kD p9 (oLd false 1 g8) <|
 kCall p10 (cF 297 (aC g9 (aC (ci 65535) aN))) <|
 kD p11 (oNot g10) <|
 kD p12 (oMov g11) <|
 kD p13 (oG g12 false (oFld 1 g1)) <|
 kD p14 (oG g12 false (oLd false 1 g13)) <|
 kCall p15 (cG g12 false (cF 297 (aC g14 (aC (ci 255) aN)))) <|
 kD p16 (oG g12 false (oNot g15)) <|
 kD p17 (oPick g12 (kV (.bool true)) g16) <|
 kD p18 (oMov g17) <|
 kD p19 (oG g18 false (oFld 2 g1)) <|
 kD p20 (oG g18 false (oLd false 1 g19)) <|
 kCall p21 (cG g18 false (cF 297 (aC g20 (aC (ci 255) aN)))) <|
 kD p22 (oG g18 false (oNot g21)) <|
 kD p23 (oPick g18 (kV (.bool true)) g22) <|
 kD p24 (oMov g23) <|
 kD p25 (oG g24 false (oFld 4 g1)) <|
 kD p26 (oG g24 false (oLd false 1 g25)) <|
 kCall p27 (cG g24 false (cF 297 (aC g26 (aC (ci 32767) aN)))) <|
 kD p28 (oG g24 false (oNot g27)) <|
 kD p29 (oPick g24 (kV (.bool true)) g28) <|
 kCond g29 (kD p30 (oBuild [(.str []), (vi 0), (vi 0), (vi 0), (.str [])] bN) <|
 kD0 (oSt 5 g2 g30) <|
 kD p3 (oMov (ci 800)) <|
 kRet) <|
 kEnd) <|
 kD p4 (oMov (kV (.ref .nilsl))) <|
 kSeq (kD p31 (oFld 5 g1) <|
 kD p32 (oLd false 1 g31) <|
 kD p33 (oLenS g32) <|
 kD p34 (oMov (ci 0)) <|
 kBlock 0 <|
 kLoop <|
 kD p35 (o_lss g34 g33) <|
 kSeq (kCond g35 (kEnd) <|
 kExit 0) <|
 kSeq (kBlock 1 <|
 kD p36 (oIdx 2 g32 g34) <|
 kD p37 (oLd true 2 g36) <|
 kD p6 (oAlloc [(vi 0), (.str [])]) <|
 kD0 (oSt 2 g6 g37) <|
 kSeq (kD p38 (oFld 0 g6) <|
 kD p39 (oLd false 1 g38) <|
 kCall p40 (cF 297 (aC g39 (aC (ci 65535) aN))) <|
 kD p41 (oNot g40) <|
 kD p42 (oMov g41) <|
 kD p43 (oG g42 false (oFld 1 g6)) <|
 kD p44 (oG g42 false (oLd false 1 g43)) <|
 kD p45 (oG g42 false (oLenT g44)) <|
 kD p46 (oG g42 false (o_gtr g45 (ci 65535))) <|
 kD p47 (oPick g42 (kV (.bool true)) g46) <|
 kCond g47 (kD p48 (oBuild [(.str []), (vi 0), (vi 0), (vi 0), (.str [])] bN) <|
 kD0 (oSt 5 g2 g48) <|
 kD p3 (oMov (ci 800)) <|
 kRet) <|
 kEnd) <|
 kD p49 (oMov g4) <|
 kD p50 (oFld 0 g6) <|
 kD p51 (oLd false 1 g50) <|
 kD p53 (oFld 1 g6) <|
 kD p54 (oLd false 1 g53) <|
 kD p55 (oLenT g54) <|
 kD p59 (oFld 1 g6) <|
 kD p60 (oLd false 1 g59) <|
 kCall p52 (cF 256 (aC g51 aN)) <|
 kChk g60 (oLd false 1 g59) <|
 kChk g54 (oLd false 1 g53) <|
 kCall p56 (cF 256 (aC g55 aN)) <|
 kChk g60 (oLd false 1 g59) <|
 kD p57 (o_add g52 g56) <|
 kD p58 (oApp 1 1 g49 g57 (oEs (.app false false 1 1 (.t s49) (.t s57)))) <|
 kChk g60 (oLd false 1 g59) <|
 kD p61 (oApp 1 1 g58 g60 (oEs (.app false false 1 1 (.t s58) (.t s60)))) <|
 kD p4 (oMov g61) <|
 kD p62 (oMov g4) <|
 kD p63 (oLenS g62) <|
 kD p64 (o_gtr g63 (ci 65535)) <|
 kCond g64 (kD p65 (oBuild [(.str []), (vi 0), (vi 0), (vi 0), (.str [])] bN) <|
 kD0 (oSt 5 g2 g65) <|
 kD p3 (oMov (ci 800)) <|
 kRet) <|
 kEnd) <|
 kD p66 (o_add g34 (ci 1)) <|
 kD p34 (oMov g66) <|
 kEnd) <|
 kD p67 (oFld 1 g1) <|
 kD p68 (oLd false 1 g67) <|
 kD p69 (o_shl g68 (kV (.int .u64 (.c (.ofNat 24))))) <|
 kD p70 (oFld 2 g1) <|
 kD p71 (oLd false 1 g70) <|
 kD p72 (o_shl g71 (kV (.int .u64 (.c (.ofNat 16))))) <|
 kD p73 (o_or g69 g72) <|
 kD p74 (oFld 4 g1) <|
 kD p75 (oLd false 1 g74) <|
 kD p76 (o_or g73 g75) <|
 kD p7 (oMov g76) <|
 kSeq (kD p77 (oFld 3 g1) <|
 kD p78 (oLd false 1 g77) <|
 kCond g78 (kD p79 (oMov g7) <|
 kD p80 (o_or g79 (ci 32768)) <|
 kD p7 (oMov g80) <|
 kEnd) <|
 kEnd) <|
 kD p81 (oFld 0 g1) <|
 kD p82 (oLd false 1 g81) <|
 kD p83 (oMov g7) <|
 kD p84 (oMov g4) <|
 kD p85 (oCvts g84 (oRs (.cvts (.t s84)))) <|
 kD p86 (oBuild [(.str []), (vi 0), (vi 0), (vi 0), (.str [])] (bC 0 1 (kV (.str [0])) (bC 1 1 (ci 41) (bC 2 1 g82 (bC 3 1 g83 (bC 4 1 g85 bN)))))) <|
 kD0 (oSt 5 g2 g86) <|
 kD p3 (oMov (ci 0)) <|
 kRet,
 (rS [.cell s2 true 5, .tmp s3])⟩
/-- (*wimple/class.asking).has$1 -/
noncomputable def k259 : FnK := ⟨kD p3 (oBox g0) <|
 kD p4 (oMov (kV (.bool false))) <|
 kD p5 (oFld 1 g3) <|
 kD p6 (oLd false 1 g5) <|
 kD p7 (oLd false 1 g1) <|
 kD p8 (o_eql g6 g7) <|
 kD p9 (oMov g8) <|
 kD p10 (oG g9 true (oFld 0 g3)) <|
 kD p11 (oG g9 true (oLd false 1 g10)) <|
 kD p12 (oG g9 true (oLd false 1 g2)) <|
 kD p13 (oG g9 true (oNil g12)) <|
 kD p14 (oG g9 true (oFld 1 g13)) <|
 kD p15 (oG g9 true (oLd false 1 g14)) <|
 kD p16 (oG g9 true (oNil g15)) <|
 kD p17 (oG g9 true (oFld 0 g16)) <|
 kD p18 (oG g9 true (oLd false 1 g17)) <|
 kCall p19 (cG g9 true (cF 113 (aC g11 (aC g18 aN)))) <|
 kD p20 (oPick g9 g19 (kV (.bool false))) <|
 kD p4 (oMov g20) <|
 kRet,
 (r1 g4)⟩
/-- slices.IndexFunc[[]wimple/api.Rr,wimple/api.Rr] -/
noncomputable def k260 : FnK := ⟨kD p4 (oMov (ci 0)) <|
 kSeq (kD p6 (oMov g0) <|
 kD p7 (oLenS g6) <|
 kD p8 (oMov (ci 0)) <|
 kBlock 0 <|
 kLoop <|
 kD p9 (o_lss g8 g7) <|
 kSeq (kCond g9 (kEnd) <|
 kExit 0) <|
 kSeq (kBlock 1 <|
 kD p10 (oMov g8) <|
 kD p5 (oMov g10) <|
 kD p11 (oMov g1) <|
 kD p12 (oMov g0) <|
 kD p13 (oMov g5) <|
 kD p14 (oIdx 5 g12 g13) <|
 kD p15 (oLd true 5 g14) <|
 kCall p16 (cV g11 (aC g15 aN)) <|
 kCond g16 (kD p17 (oMov g5) <|
 kD p4 (oMov g17) <|
 kRet) <|
 kEnd) <|
 kD p18 (o_add g8 (ci 1)) <|
 kD p8 (oMov g18) <|
 kEnd) <|
 kD p4 (oMov (kV (.int .i64 (.c (.negSucc 0))))) <|
 kRet,
 (r1 g4)⟩
/-- slices.insertionSortCmpFunc[string] -/
noncomputable def k261 : FnK := ⟨kD p10 (oMov g1) <|
 kD p11 (o_add g10 (ci 1)) <|
 kD p8 (oMov g11) <|
 kBlock 0 <|
 kLoop <|
 kSeq (kD p12 (oMov g8) <|
 kD p13 (oMov g2) <|
 kD p14 (o_lss g12 g13) <|
 kCond g14 (kEnd) <|
 kExit 0) <|
 kSeq (kBlock 1 <|
 kD p17 (oMov g8) <|
 kD p9 (oMov g17) <|
 kBlock 2 <|
 kLoop <|
 kSeq (kD p18 (oMov g9) <|
 kD p19 (oMov g1) <|
 kD p20 (o_gtr g18 g19) <|
 kD p21 (oMov g20) <|
 kD p22 (oG g21 true (oMov g3)) <|
 kD p23 (oG g21 true (oMov g0)) <|
 kD p24 (oG g21 true (oMov g9)) <|
 kD p25 (oG g21 true (oIdx 1 g23 g24)) <|
 kD p26 (oG g21 true (oLd false 1 g25)) <|
 kD p27 (oG g21 true (oMov g0)) <|
 kD p28 (oG g21 true (oMov g9)) <|
 kD p29 (oG g21 true (o_sub g28 (ci 1))) <|
 kD p30 (oG g21 true (oIdx 1 g27 g29)) <|
 kD p31 (oG g21 true (oLd false 1 g30)) <|
 kCall p32 (cG g21 true (cV g22 (aC g26 (aC g31 aN)))) <|
 kD p33 (oG g21 true (o_lss g32 (ci 0))) <|
 kD p34 (oPick g21 g33 (kV (.bool false))) <|
 kCond g34 (kEnd) <|
 kExit 2) <|
 kSeq (kBlock 3 <|
 kD p37 (oMov g0) <|
 kD p38 (oMov g9) <|
 kD p39 (oMov g0) <|
 kD p40 (oMov g9) <|
 kD p41 (o_sub g40 (ci 1)) <|
 kD p42 (oMov g0) <|
 kD p43 (oMov g9) <|
 kD p44 (o_sub g43 (ci 1)) <|
 kD p45 (oIdx 1 g42 g44) <|
 kD p46 (oLd false 1 g45) <|
 kD p47 (oMov g0) <|
 kD p48 (oMov g9) <|
 kD p49 (oIdx 1 g47 g48) <|
 kD p50 (oLd false 1 g49) <|
 kD p51 (oIdx 1 g37 g38) <|
 kD0 (oSt 1 g51 g46) <|
 kD p52 (oIdx 1 g39 g41) <|
 kD0 (oSt 1 g52 g50) <|
 kEnd) <|
 kD p35 (oMov g9) <|
 kD p36 (o_sub g35 (ci 1)) <|
 kD p9 (oMov g36) <|
 kEnd) <|
 kD p15 (oMov g8) <|
 kD p16 (o_add g15 (ci 1)) <|
 kD p8 (oMov g16) <|
 kEnd,
 (rS [])⟩
/-- math/bits.Len64 -/
noncomputable def k270 : FnK := ⟨kD p2 (oMov (ci 0)) <|
 kSeq (kD p3 (oMov g0) <|
 kD p4 (o_geq g3 (kV (.int .u64 (.c (.ofNat 4294967296))))) <|
 kCond g4 (kD p5 (oMov g0) <|
 kD p6 (o_shr g5 (kV (.int .u64 (.c (.ofNat 32))))) <|
 kD p0 (oMov g6) <|
 kD p2 (oMov (ci 32)) <|
 kEnd) <|
 kEnd) <|
 kSeq (kD p7 (oMov g0) <|
 kD p8 (o_geq g7 (kV (.int .u64 (.c (.ofNat 65536))))) <|
 kCond g8 (kD p9 (oMov g0) <|
 kD p10 (o_shr g9 (kV (.int .u64 (.c (.ofNat 16))))) <|
 kD p0 (oMov g10) <|
 kD p11 (oMov g2) <|
 kD p12 (o_add g11 (ci 16)) <|
 kD p2 (oMov g12) <|
 kEnd) <|
 kEnd) <|
 kSeq (kD p13 (oMov g0) <|
 kD p14 (o_geq g13 (kV (.int .u64 (.c (.ofNat 256))))) <|
 kCond g14 (kD p15 (oMov g0) <|
 kD p16 (o_shr g15 (kV (.int .u64 (.c (.ofNat 8))))) <|
 kD p0 (oMov g16) <|
 kD p17 (oMov g2) <|
 kD p18 (o_add g17 (ci 8)) <|
 kD p2 (oMov g18) <|
 kEnd) <|
 kEnd) <|
 kD p19 (oMov g2) <|
 kD p20 (oMov g0) <|
 kD p21 (oCvti .u8 g20) <|
 kD p22 (oIdxs (kV (.str [0, 1, 2, 2, 3, 3, 3, 3, 4, 4, 4, 4, 4, 4, 4, 4, 5, 5, 5, 5, 5, 5, 5, 5, 5, 5, 5, 5, 5, 5, 5, 5, 6, 6, 6, 6, 6, 6, 6, 6, 6, 6, 6, 6, 6, 6, 6, 6, 6, 6, 6, 6, 6, 6, 6, 6, 6, 6, 6, 6, 6, 6, 6, 6, 7, 7, 7, 7, 7, 7, 7, 7, 7, 7, 7, 7, 7, 7, 7, 7, 7, 7, 7, 7, 7, 7, 7, 7, 7, 7, 7, 7, 7, 7, 7, 7, 7, 7, 7, 7, 7, 7, 7, 7, 7, 7, 7, 7, 7, 7, 7, 7, 7, 7, 7, 7, 7, 7, 7, 7, 7, 7, 7, 7, 7, 7, 7, 7, 8, 8, 8, 8, 8, 8, 8, 8, 8, 8, 8, 8, 8, 8, 8, 8, 8, 8, 8, 8, 8, 8, 8, 8, 8, 8, 8, 8, 8, 8, 8, 8, 8, 8, 8, 8, 8, 8, 8, 8, 8, 8, 8, 8, 8, 8, 8, 8, 8, 8, 8, 8, 8, 8, 8, 8, 8, 8, 8, 8, 8, 8, 8, 8, 8, 8, 8, 8, 8, 8, 8, 8, 8, 8, 8, 8, 8, 8, 8, 8, 8, 8, 8, 8, 8, 8, 8, 8, 8, 8, 8, 8, 8, 8, 8, 8, 8, 8, 8, 8, 8, 8, 8, 8, 8, 8, 8, 8, 8, 8, 8, 8, 8, 8, 8, 8, 8, 8, 8, 8, 8, 8, 8, 8, 8, 8, 8, 8])) g21) <|
 kD p23 (oCvti .i64 g22) <|
 kD p24 (o_add g19 g23) <|
 kD p2 (oMov g24) <|
 kRet,
 (r1 g2)⟩
/-- wimple/head.may -/
noncomputable def k291 : FnK := ⟨kD p3 (oBox g1) <|
 kD p4 (oMov (kV (.bool false))) <|
 kSeq (kD p7 (oLd true 4 g3) <|
 kD p8 (oMov (ci 0)) <|
 kBlock 0 <|
 kLoop <|
 kD p9 (o_lss g8 (ci 4)) <|
 kSeq (kCond g9 (kEnd) <|
 kExit 0) <|
 kSeq (kBlock 1 <|
 kD p10 (oIdxv false 4 1 g7 g8) <|
 kD p6 (oMov g10) <|
 kD p11 (oMov g6) <|
 kD p12 (o_lss g11 (ci 0)) <|
 kD p13 (oMov g12) <|
 kD p14 (oG g13 false (oMov g6)) <|
 kD p15 (oG g13 false (o_gtr g14 (ci 65535))) <|
 kD p16 (oPick g13 (kV (.bool true)) g15) <|
 kCond g16 (kD p4 (oMov (kV (.bool false))) <|
 kRet) <|
 kEnd) <|
 kD p17 (o_add g8 (ci 1)) <|
 kD p8 (oMov g17) <|
 kEnd) <|
 kD p18 (oMov g0) <|
 kD p19 (oNil g18) <|
 kD p20 (oFld 0 g19) <|
 kD p21 (oLd false 1 g20) <|
 kD p22 (o_geq g21 (ci 0)) <|
 kD p23 (oMov g22) <|
 kD p24 (oG g23 true (oMov g0)) <|
 kD p25 (oG g23 true (oNil g24)) <|
 kD p26 (oG g23 true (oFld 0 g25)) <|
 kD p27 (oG g23 true (oLd false 1 g26)) <|
 kD p28 (oG g23 true (o_leq g27 (ci 65535))) <|
 kD p29 (oPick g23 g28 (kV (.bool false))) <|
 kD p30 (oMov g29) <|
 kD p31 (oG g30 true (oMov g0)) <|
 kD p32 (oG g30 true (oNil g31)) <|
 kD p33 (oG g30 true (oFld 2 g32)) <|
 kD p34 (oG g30 true (oLd false 1 g33)) <|
 kD p35 (oG g30 true (o_geq g34 (ci 0))) <|
 kD p36 (oPick g30 g35 (kV (.bool false))) <|
 kD p37 (oMov g36) <|
 kD p38 (oG g37 true (oMov g0)) <|
 kD p39 (oG g37 true (oNil g38)) <|
 kD p40 (oG g37 true (oFld 2 g39)) <|
 kD p41 (oG g37 true (oLd false 1 g40)) <|
 kD p42 (oG g37 true (o_leq g41 (ci 15))) <|
 kD p43 (oPick g37 g42 (kV (.bool false))) <|
 kD p44 (oMov g43) <|
 kD p45 (oG g44 true (oMov g0)) <|
 kD p46 (oG g44 true (oNil g45)) <|
 kD p47 (oG g44 true (oFld 8 g46)) <|
 kD p48 (oG g44 true (oLd false 1 g47)) <|
 kD p49 (oG g44 true (o_geq g48 (ci 0))) <|
 kD p50 (oPick g44 g49 (kV (.bool false))) <|
 kD p51 (oMov g50) <|
 kD p52 (oG g51 true (oMov g0)) <|
 kD p53 (oG g51 true (oNil g52)) <|
 kD p54 (oG g51 true (oFld 8 g53)) <|
 kD p55 (oG g51 true (oLd false 1 g54)) <|
 kD p56 (oG g51 true (o_leq g55 (ci 15))) <|
 kD p57 (oPick g51 g56 (kV (.bool false))) <|
 kD p58 (oMov g57) <|
 kD p59 (oG g58 true (oMov g0)) <|
 kD p60 (oG g58 true (oNil g59)) <|
 kD p61 (oG g58 true (oFld 7 g60)) <|
 kD p62 (oG g58 true (oLd false 1 g61)) <|
 kD p63 (oG g58 true (o_geq g62 (ci 0))) <|
 kD p64 (oPick g58 g63 (kV (.bool false))) <|
 kD p65 (oMov g64) <|
 kD p66 (oG g65 true (oMov g0)) <|
 kD p67 (oG g65 true (oNil g66)) <|
 kD p68 (oG g65 true (oFld 7 g67)) <|
 kD p69 (oG g65 true (oLd false 1 g68)) <|
 kD p70 (oG g65 true (o_leq g69 (ci 7))) <|
 kD p71 (oPick g65 g70 (kV (.bool false))) <|
 kD p4 (oMov g71) <|
 kRet,
 (r1 g4)⟩
/-- wimple/head.bit -/
noncomputable def k292 : FnK := ⟨kD p4 (oMov (ci 0)) <|
 kSeq (kD p5 (oMov g0) <|
 kCond g5 (kD p6 (oMov g1) <|
 kD p7 (o_shl (ci 1) g6) <|
 kD p4 (oMov g7) <|
 kRet) <|
 kEnd) <|
 kD p4 (oMov (ci 0)) <|
 kRet,
 (r1 g4)⟩
/-- wimple/wire.in -/
noncomputable def k293 : FnK := ⟨kD p6 (oMov (kV (.bool false))) <|
 kD p7 (oMov g0) <|
 kD p8 (oMov g1) <|
 kD p9 (o_geq g7 g8) <|
 kD p10 (oMov g9) <|
 kD p11 (oG g10 true (oMov g0)) <|
 kD p12 (oG g10 true (oMov g2)) <|
 kD p13 (oG g10 true (o_leq g11 g12)) <|
 kD p14 (oPick g10 g13 (kV (.bool false))) <|
 kD p6 (oMov g14) <|
 kRet,
 (r1 g6)⟩
/-- wimple/wire.may -/
noncomputable def k294 : FnK := ⟨kD p2 (oMov (kV (.bool false))) <|
 kD p3 (oMov g0) <|
 kD p4 (oNil g3) <|
 kD p5 (oFld 0 g4) <|
 kD p6 (oLd false 1 g5) <|
 kCall p7 (cF 75 (aC g6 aN)) <|
 kD p8 (oMov g7) <|
 kD p9 (oG g8 true (oMov g0)) <|
 kD p10 (oG g8 true (oNil g9)) <|
 kD p11 (oG g8 true (oFld 1 g10)) <|
 kD p12 (oG g8 true (oLd false 1 g11)) <|
 kCall p13 (cG g8 true (cF 293 (aC g12 (aC (ci 1) (aC (ci 65535) aN))))) <|
 kD p14 (oPick g8 g13 (kV (.bool false))) <|
 kD p15 (oMov g14) <|
 kD p16 (oG g15 true (oMov g0)) <|
 kD p17 (oG g15 true (oNil g16)) <|
 kD p18 (oG g15 true (oFld 2 g17)) <|
 kD p19 (oG g15 true (oLd false 1 g18)) <|
 kCall p20 (cG g15 true (cF 293 (aC g19 (aC (ci 0) (aC (ci 65535) aN))))) <|
 kD p21 (oPick g15 g20 (kV (.bool false))) <|
 kD p22 (oMov g21) <|
 kD p23 (oG g22 true (oMov g0)) <|
 kD p24 (oG g22 true (oNil g23)) <|
 kD p25 (oG g22 true (oFld 3 g24)) <|
 kD p26 (oG g22 true (oLd false 1 g25)) <|
 kCall p27 (cG g22 true (cF 293 (aC g26 (aC (ci 0) (aC (ci 4294967295) aN))))) <|
 kD p28 (oPick g22 g27 (kV (.bool false))) <|
 kD p29 (oMov g28) <|
 kD p30 (oG g29 true (oMov g0)) <|
 kD p31 (oG g29 true (oNil g30)) <|
 kD p32 (oG g29 true (oFld 1 g31)) <|
 kD p33 (oG g29 true (oLd false 1 g32)) <|
 kD p34 (oG g29 true (oMov g0)) <|
 kD p35 (oG g29 true (oNil g34)) <|
 kD p36 (oG g29 true (oFld 4 g35)) <|
 kD p37 (oG g29 true (oLd false 1 g36)) <|
 kCall p38 (cG g29 true (cF 206 (aC g33 (aC g37 aN)))) <|
 kD p39 (oPick g29 g38 (kV (.bool false))) <|
 kD p2 (oMov g39) <|
 kRet,
 (r1 g2)⟩
/-- (*wimple/comp.Writer).Raw -/
noncomputable def k295 : FnK := ⟨kD p4 (oMov (ci 0)) <|
 kSeq (kBlock 0 <|
 kD p6 (oMov g0) <|
 kD p7 (oPs (.eqx false .p (.t s6) (.k (.ref .nilptr)))) <|
 kD p5 (oMov g7) <|
 kCond g5 (kD p4 (oMov (ci 1)) <|
 kRet) <|
 kD p9 (oMov g1) <|
 kD p10 (oLenT g9) <|
 kD p11 (oMov g0) <|
 kD p12 (oNil g11) <|
 kD p13 (oFld 0 g12) <|
 kD p14 (oLd false 1 g13) <|
 kD p15 (oLenS g14) <|
 kD p16 (o_sub (ci 4096) g15) <|
 kD p17 (o_gtr g10 g16) <|
 kD p8 (oMov g17) <|
 kCond g8 (kD p4 (oMov (ci 501)) <|
 kRet) <|
 kEnd) <|
 kD p18 (oMov g0) <|
 kD p19 (oMov g0) <|
 kD p20 (oNil g19) <|
 kD p21 (oFld 0 g20) <|
 kD p22 (oLd false 1 g21) <|
 kD p23 (oMov g1) <|
 kD p24 (oApp 1 1 g22 g23 (oEs (.app false false 1 1 (.t s22) (.t s23)))) <|
 kD p25 (oNil g18) <|
 kD p26 (oFld 0 g25) <|
 kD0 (oSt 1 g26 g24) <|
 kD p4 (oMov (ci 0)) <|
 kRet,
 (r1 g4)⟩
/-- (*wimple/comp.Writer).Name -/
noncomputable def k296 : FnK := ⟨kD p4 (oMov (ci 0)) <|
 kSeq (kD p16 (oMov g0) <|
 kD p17 (oPs (.eqx false .p (.t s16) (.k (.ref .nilptr)))) <|
 kCond g17 (kD p4 (oMov (ci 1)) <|
 kRet) <|
 kEnd) <|
 kD p19 (oMov g1) <|
 kCall p20 (cF 129 (aC g19 aN)) <|
 kD p18 (oMov g20) <|
 kD p21 (oExt g18 0) <|
 kD p22 (oExt g18 1) <|
 kD p5 (oMov g21) <|
 kD p6 (oMov g22) <|
 kSeq (kD p23 (oMov g6) <|
 kD p24 (oNot g23) <|
 kCond g24 (kD p4 (oMov (ci 500)) <|
 kRet) <|
 kEnd) <|
 kD p25 (oMov g1) <|
 kD p7 (oMov g25) <|
 kD p26 (oMov g5) <|
 kD p27 (oLenS g26) <|
 kD p28 (o_sub g27 (ci 1)) <|
 kD p8 (oMov g28) <|
 kSeq (kD p29 (oMov g5) <|
 kD p30 (oMov g5) <|
 kD p31 (oLenS g30) <|
 kD p32 (o_sub g31 (ci 1)) <|
 kD p33 (oSlc 1 g29 none (some g32) (oPs (.slc 1 (.t s29) none (some (.t s32)) none))) <|
 kD p34 (oLenS g33) <|
 kD p35 (oMov (ci 0)) <|
 kBlock 0 <|
 kLoop <|
 kD p36 (o_lss g35 g34) <|
 kSeq (kCond g36 (kEnd) <|
 kExit 0) <|
 kSeq (kBlock 1 <|
 kD p37 (oMov g35) <|
 kD p38 (oIdx 1 g33 g35) <|
 kD p39 (oLd false 1 g38) <|
 kD p9 (oMov g37) <|
 kD p10 (oMov g39) <|
 kD p41 (oMov g0) <|
 kD p42 (oNil g41) <|
 kD p43 (oFld 1 g42) <|
 kD p44 (oLd false 1 g43) <|
 kD p45 (oMov g1) <|
 kD p46 (oMov g10) <|
 kD p47 (oSlc 0 g45 (some g46) none (oPs (.slc 0 (.t s45) (some (.t s46)) none none))) <|
 kD p48 (oRs (.lkp ⟨false, [.str]⟩ true (vi 0) (.t s44) (.t s47))) <|
 kD p40 (oMov g48) <|
 kD p49 (oExt g40 0) <|
 kD p50 (oExt g40 1) <|
 kD p11 (oMov g49) <|
 kD p12 (oMov g50) <|
 kD p51 (oMov g12) <|
 kCond g51 (kD p52 (oMov g1) <|
 kD p53 (oMov g10) <|
 kD p54 (oSlc 0 g52 none (some g53) (oPs (.slc 0 (.t s52) none (some (.t s53)) none))) <|
 kD p55 (oMov g11) <|
 kD p56 (o_or (ci 49152) g55) <|
 kD p59 (oMov g9) <|
 kCall p57 (cF 256 (aC g56 aN)) <|
 kD p58 (o_add g54 g57) <|
 kD p7 (oMov g58) <|
 kD p8 (oMov g59) <|
 kExit 0) <|
 kEnd) <|
 kD p60 (o_add g35 (ci 1)) <|
 kD p35 (oMov g60) <|
 kEnd) <|
 kSeq (kD p61 (oMov g7) <|
 kD p62 (oLenT g61) <|
 kD p63 (oMov g0) <|
 kD p64 (oNil g63) <|
 kD p65 (oFld 0 g64) <|
 kD p66 (oLd false 1 g65) <|
 kD p67 (oLenS g66) <|
 kD p68 (o_sub (ci 4096) g67) <|
 kD p69 (o_gtr g62 g68) <|
 kCond g69 (kD p4 (oMov (ci 501)) <|
 kRet) <|
 kEnd) <|
 kSeq (kD p70 (oMov g5) <|
 kD p71 (oMov g8) <|
 kD p72 (oSlc 1 g70 none (some g71) (oPs (.slc 1 (.t s70) none (some (.t s71)) none))) <|
 kD p73 (oLenS g72) <|
 kD p74 (oMov (ci 0)) <|
 kBlock 2 <|
 kLoop <|
 kD p75 (o_lss g74 g73) <|
 kSeq (kCond g75 (kEnd) <|
 kExit 2) <|
 kSeq (kBlock 3 <|
 kD p76 (oIdx 1 g72 g74) <|
 kD p77 (oLd false 1 g76) <|
 kD p14 (oMov g77) <|
 kD p78 (oMov g0) <|
 kD p79 (oNil g78) <|
 kD p80 (oFld 0 g79) <|
 kD p81 (oLd false 1 g80) <|
 kD p82 (oLenS g81) <|
 kD p83 (oMov g14) <|
 kD p84 (o_add g82 g83) <|
 kD p15 (oMov g84) <|
 kD p85 (oMov g15) <|
 kD p86 (o_leq g85 (ci 16383)) <|
 kCond g86 (kD p87 (oMov g0) <|
 kD p88 (oNil g87) <|
 kD p89 (oFld 1 g88) <|
 kD p90 (oLd false 1 g89) <|
 kD p91 (oMov g1) <|
 kD p92 (oMov g14) <|
 kD p93 (oSlc 0 g91 (some g92) none (oPs (.slc 0 (.t s91) (some (.t s92)) none none))) <|
 kD p94 (oMov g15) <|
 kD0 (oEs (.mup ⟨false, [.str]⟩ (.t s90) (.t s93) (.t s94))) <|
 kEnd) <|
 kEnd) <|
 kD p95 (o_add g74 (ci 1)) <|
 kD p74 (oMov g95) <|
 kEnd) <|
 kD p96 (oMov g0) <|
 kD p97 (oMov g0) <|
 kD p98 (oNil g97) <|
 kD p99 (oFld 0 g98) <|
 kD p100 (oLd false 1 g99) <|
 kD p101 (oMov g7) <|
 kD p102 (oApp 1 1 g100 g101 (oEs (.app false false 1 1 (.t s100) (.t s101)))) <|
 kD p103 (oNil g96) <|
 kD p104 (oFld 0 g103) <|
 kD0 (oSt 1 g104 g102) <|
 kD p4 (oMov (ci 0)) <|
 kRet,
 (r1 g4)⟩
/-- wimple/opt.in -/
noncomputable def k297 : FnK := ⟨kD p4 (oMov (kV (.bool false))) <|
 kD p5 (oMov g0) <|
 kD p6 (o_geq g5 (ci 0)) <|
 kD p7 (oMov g6) <|
 kD p8 (oG g7 true (oMov g0)) <|
 kD p9 (oG g7 true (oMov g1)) <|
 kD p10 (oG g7 true (o_leq g8 g9)) <|
 kD p11 (oPick g7 g10 (kV (.bool false))) <|
 kD p4 (oMov g11) <|
 kRet,
 (r1 g4)⟩
end KK
end Den
