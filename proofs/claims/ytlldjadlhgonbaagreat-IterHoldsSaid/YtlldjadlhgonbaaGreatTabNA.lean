/- Functions of the program as closures. -/
import Derived.Test.YtlldjadlhgonbaaGreatTabNS
set_option linter.unusedVariables false
set_option linter.unusedSimpArgs false
set_option autoImplicit false
set_option maxRecDepth 100000
namespace Den
open Go
namespace KK
/-- wimple/wimplelaw24.IterHolds -/
noncomputable def k3 : FnK := ⟨kD p6 (oMov (kV (.bool false))) <|
 kSeq (kCall p19 (cF 13 aN) <|
 kD p20 (oNot g19) <|
 kCond g20 (kD p6 (oMov (kV (.bool false))) <|
 kRet) <|
 kEnd) <|
 kCall p22 (cF 14 (aC (kV (.str [1, 97, 0])) (aC (ci 1) aN))) <|
 kD p21 (oMov g22) <|
 kD p23 (oExt g21 0) <|
 kD p24 (oExt g21 1) <|
 kD p7 (oMov g23) <|
 kD p8 (oMov g24) <|
 kSeq (kD p25 (oMov g8) <|
 kD p26 (oNot g25) <|
 kCond g26 (kD p6 (oMov (kV (.bool false))) <|
 kRet) <|
 kEnd) <|
 kD p27 (oMov g0) <|
 kD p28 (o_and g27 (ci 31)) <|
 kD p9 (oMov g28) <|
 kD p29 (oMov g7) <|
 kD p30 (oBuild [(vi 0), (.bool false), (vi 0), (.bool false), (.bool false), (.bool false), (.bool false), (vi 0), (vi 0)] (bC 3 1 (kV (.bool true)) bN)) <|
 kD p31 (oMov g9) <|
 kCall p32 (cF 16 (aC (kV (.str [1, 65, 0])) (aC (ci 1) (aC g31 (aC (kV (.str [97, 98, 99, 100])) aN))))) <|
 kD p33 (oMov g9) <|
 kCall p34 (cF 16 (aC (kV (.str [1, 98, 0])) (aC (ci 1) (aC g33 (aC (kV (.str [101, 102, 103, 104])) aN))))) <|
 kD p35 (oAs (.bsl false true 0 5 2 [(.str []), (vi 0), (vi 0), (vi 0), (.str [])] [(0, (.t s32)), (1, (.t s34))])) <|
 kD p36 (oBuild [(vi 0), (.bool false), (vi 0), (.bool false), (.bool false), (.bool false), (.bool false), (vi 0), (vi 0), (.ref .nilsl), (.ref .nilsl), (.ref .nilsl), (.ref .nilsl)] (bC 0 9 g30 (bC 10 1 g35 bN))) <|
 kCall p37 (cF 15 (aC g29 (aC g36 aN))) <|
 kD p10 (oMov g37) <|
 kD p38 (oMov g7) <|
 kCall p39 (cF 17 (aC g38 aN)) <|
 kD p11 (oMov g39) <|
 kSeq (kD p40 (oMov g10) <|
 kD p41 (oNot g40) <|
 kD p42 (oMov g41) <|
 kD p43 (oG g42 false (oMov g11)) <|
 kD p44 (oG g42 false (oLenS g43)) <|
 kD p45 (oG g42 false (o_neq g44 (ci 1))) <|
 kD p46 (oPick g42 (kV (.bool true)) g45) <|
 kD p47 (oMov g46) <|
 kD p48 (oG g47 false (oMov g11)) <|
 kD p49 (oG g47 false (oIdx 3 g48 (ci 0))) <|
 kD p50 (oG g47 false (oFld 1 g49)) <|
 kD p51 (oG g47 false (oLd false 1 g50)) <|
 kD p52 (oG g47 false (o_neq g51 (ci 0))) <|
 kD p53 (oPick g47 (kV (.bool true)) g52) <|
 kD p54 (oMov g53) <|
 kD p55 (oG g54 false (oMov g11)) <|
 kD p56 (oG g54 false (oIdx 3 g55 (ci 0))) <|
 kD p57 (oG g54 false (oFld 2 g56)) <|
 kD p58 (oG g54 false (oLd false 1 g57)) <|
 kD p59 (oG g54 false (oMov g9)) <|
 kD p60 (oG g54 false (oBsl1 0 1 1 (lC (kV (.str [97, 98, 99, 100])) lN))) <|
 kD p61 (oG g54 false (oBuild [(.str []), (vi 0), (vi 0), (.ref .nilsl)] (bC 0 1 (kV (.str [1, 97, 0])) (bC 1 1 (ci 1) (bC 2 1 g59 (bC 3 1 g60 bN)))))) <|
 kD p62 (oG g54 false (oAs (.bsl false true 0 4 1 [(.str []), (vi 0), (vi 0), (.ref .nilsl)] [(0, (.t s61))]))) <|
 kCall p63 (cG g54 false (cF 18 (aC g58 (aC g62 aN)))) <|
 kD p64 (oG g54 false (oNot g63)) <|
 kD p65 (oPick g54 (kV (.bool true)) g64) <|
 kCond g65 (kD p6 (oMov (kV (.bool false))) <|
 kRet) <|
 kEnd) <|
 kD p66 (oMov g1) <|
 kD p67 (o_and g66 (ci 31)) <|
 kD p12 (oMov g67) <|
 kD p68 (oMov g7) <|
 kD p69 (oMov g12) <|
 kCall p70 (cF 19 (aC g68 (aC g69 aN))) <|
 kD p13 (oMov g70) <|
 kD p14 (oMov (kV (.str [1, 97, 0]))) <|
 kSeq (kD p71 (oMov g2) <|
 kCond g71 (kD p14 (oMov (kV (.str [1, 98, 0]))) <|
 kEnd) <|
 kEnd) <|
 kD p72 (oMov g7) <|
 kCall p73 (cF 20 (aC g72 aN)) <|
 kD p74 (oLenS g73) <|
 kD p15 (oMov g74) <|
 kD p76 (oMov g7) <|
 kD p77 (oMov g14) <|
 kCall p78 (cF 21 (aC g76 (aC g77 (aC (ci 1) aN)))) <|
 kD p75 (oMov g78) <|
 kD p79 (oExt g75 0) <|
 kD p80 (oExt g75 1) <|
 kD p16 (oMov g79) <|
 kD p17 (oMov g80) <|
 kD p81 (oMov g2) <|
 kD p82 (oNot g81) <|
 kD p83 (oMov g82) <|
 kD p84 (oG g83 true (oMov g12)) <|
 kD p85 (oG g83 true (oMov g9)) <|
 kD p86 (oG g83 true (o_lss g84 g85)) <|
 kD p87 (oPick g83 g86 (kV (.bool false))) <|
 kD p18 (oMov g87) <|
 kSeq (kD p88 (oMov g13) <|
 kCall p89 (cF 22 (aC g88 aN)) <|
 kD p90 (o_neq g89 (ci 0)) <|
 kD p91 (oMov g90) <|
 kD p92 (oG g91 false (oMov g17)) <|
 kCall p93 (cG g91 false (cF 22 (aC g92 aN))) <|
 kD p94 (oG g91 false (o_neq g93 (ci 0))) <|
 kD p95 (oPick g91 (kV (.bool true)) g94) <|
 kD p96 (oMov g95) <|
 kD p97 (oG g96 false (oMov g7)) <|
 kCall p98 (cG g96 false (cF 20 (aC g97 aN))) <|
 kD p99 (oG g96 false (oLenS g98)) <|
 kD p100 (oG g96 false (oMov g15)) <|
 kD p101 (oG g96 false (o_eql g99 g100)) <|
 kD p102 (oG g96 false (oMov g18)) <|
 kD p103 (oG g96 false (oPs (.eqx true .b (.t s101) (.t s102)))) <|
 kD p104 (oPick g96 (kV (.bool true)) g103) <|
 kCond g104 (kD p6 (oMov (kV (.bool false))) <|
 kRet) <|
 kEnd) <|
 kD p105 (oMov g7) <|
 kCall p106 (cF 17 (aC g105 aN)) <|
 kD p11 (oMov g106) <|
 kD p107 (oMov g18) <|
 kD p108 (oNot g107) <|
 kD p109 (oMov g108) <|
 kD p110 (oG g109 true (oMov g11)) <|
 kD p111 (oG g109 true (oLenS g110)) <|
 kD p112 (oG g109 true (o_eql g111 (ci 1))) <|
 kD p113 (oPick g109 g112 (kV (.bool false))) <|
 kD p114 (oMov g113) <|
 kD p115 (oG g114 false (oMov g18)) <|
 kD p116 (oG g114 false (oMov g115)) <|
 kD p117 (oG g116 true (oMov g11)) <|
 kD p118 (oG g116 true (oLenS g117)) <|
 kD p119 (oG g116 true (o_eql g118 (ci 2))) <|
 kD p120 (oG g114 false (oPick g116 g119 (kV (.bool false)))) <|
 kD p121 (oG g114 false (oMov g120)) <|
 kD p122 (oG g121 true (oMov g11)) <|
 kD p123 (oG g121 true (oIdx 3 g122 (ci 1))) <|
 kD p124 (oG g121 true (oFld 2 g123)) <|
 kD p125 (oG g121 true (oLd false 1 g124)) <|
 kD p126 (oG g121 true (oMov g9)) <|
 kD p127 (oG g121 true (oMov g12)) <|
 kD p128 (oG g121 true (o_sub g126 g127)) <|
 kD p129 (oG g121 true (oBsl1 0 1 1 (lC (kV (.str [97, 98, 99, 100])) lN))) <|
 kD p130 (oG g121 true (oBuild [(.str []), (vi 0), (vi 0), (.ref .nilsl)] (bC 0 1 (kV (.str [1, 97, 0])) (bC 1 1 (ci 1) (bC 2 1 g128 (bC 3 1 g129 bN)))))) <|
 kD p131 (oG g121 true (oAs (.bsl false true 0 4 1 [(.str []), (vi 0), (vi 0), (.ref .nilsl)] [(0, (.t s130))]))) <|
 kCall p132 (cG g121 true (cF 18 (aC g125 (aC g131 aN)))) <|
 kD p133 (oG g114 false (oPick g121 g132 (kV (.bool false)))) <|
 kD p134 (oPick g114 (kV (.bool true)) g133) <|
 kD p6 (oMov g134) <|
 kRet,
 (r1 g6)⟩
/-- wimple/wimplelaw24.IterNegs -/
noncomputable def k4 : FnK := ⟨kD p8 (oMov (kV (.bool false))) <|
 kSeq (kCall p22 (cF 13 aN) <|
 kD p23 (oNot g22) <|
 kCond g23 (kD p8 (oMov (kV (.bool false))) <|
 kRet) <|
 kEnd) <|
 kCall p25 (cF 14 (aC (kV (.str [1, 97, 0])) (aC (ci 1) aN))) <|
 kD p24 (oMov g25) <|
 kD p26 (oExt g24 0) <|
 kD p27 (oExt g24 1) <|
 kD p9 (oMov g26) <|
 kD p10 (oMov g27) <|
 kSeq (kD p28 (oMov g10) <|
 kD p29 (oNot g28) <|
 kCond g29 (kD p8 (oMov (kV (.bool false))) <|
 kRet) <|
 kEnd) <|
 kD p30 (oMov g0) <|
 kD p31 (o_and g30 (ci 8191)) <|
 kD p32 (oMov g1) <|
 kD p33 (o_and g32 (ci 8191)) <|
 kD p34 (oMov g2) <|
 kD p35 (o_and g34 (ci 8191)) <|
 kD p11 (oMov g31) <|
 kD p12 (oMov g33) <|
 kD p13 (oMov g35) <|
 kD p36 (oBuild [(vi 0), (.bool false), (vi 0), (.bool false), (.bool false), (.bool false), (.bool false), (vi 0), (vi 0)] (bC 3 1 (kV (.bool true)) bN)) <|
 kD p37 (oMov g11) <|
 kD p38 (oAs (.mks false false 1 1 [(.int .u8 (.c (.ofNat 0)))] (.k (vi 18)) (.k (vi 18)))) <|
 kD p39 (oCvts g38 (oRs (.cvts (.t s38)))) <|
 kD p40 (o_add (kV (.str [0, 0])) g39) <|
 kD p41 (oMov g12) <|
 kD p42 (o_shr g41 (kV (.int .u64 (.c (.ofNat 8))))) <|
 kD p43 (oCvti .u8 g42) <|
 kD p44 (oMov g12) <|
 kD p45 (oCvti .u8 g44) <|
 kD p46 (oBsl1 1 1 2 (lC g43 (lC g45 lN))) <|
 kD p47 (oCvts g46 (oRs (.cvts (.t s46)))) <|
 kD p48 (o_add g40 g47) <|
 kD p14 (oAlloc [(vi 0), (.bool false), (vi 0), (.bool false), (.bool false), (.bool false), (.bool false), (vi 0), (vi 0), (.ref .nilsl), (.ref .nilsl), (.ref .nilsl), (.ref .nilsl)]) <|
 kCall p49 (cF 16 (aC (kV (.str [0])) (aC (ci 6) (aC g37 (aC g48 aN))))) <|
 kD p50 (oAs (.bsl false true 0 5 1 [(.str []), (vi 0), (vi 0), (vi 0), (.str [])] [(0, (.t s49))])) <|
 kD p51 (oBuild [(vi 0), (.bool false), (vi 0), (.bool false), (.bool false), (.bool false), (.bool false), (vi 0), (vi 0), (.ref .nilsl), (.ref .nilsl), (.ref .nilsl), (.ref .nilsl)] (bC 0 9 g36 (bC 11 1 g50 bN))) <|
 kD0 (oSt 13 g14 g51) <|
 kD p15 (oMov (ci 0)) <|
 kSeq (kD p52 (oMov g3) <|
 kCond g52 (kD p53 (oFld 0 g14) <|
 kD p54 (oFld 8 g53) <|
 kD0 (oSt 1 g54 (ci 3)) <|
 kD p15 (oMov (ci 3)) <|
 kEnd) <|
 kEnd) <|
 kD p55 (oMov g9) <|
 kD p56 (oLd true 13 g14) <|
 kCall p57 (cF 15 (aC g55 (aC g56 aN))) <|
 kD p16 (oMov g57) <|
 kD p58 (oMov g9) <|
 kCall p59 (cF 17 (aC g58 aN)) <|
 kD p17 (oMov g59) <|
 kSeq (kD p60 (oMov g16) <|
 kD p61 (oNot g60) <|
 kD p62 (oMov g61) <|
 kD p63 (oG g62 false (oMov g17)) <|
 kD p64 (oG g62 false (oLenS g63)) <|
 kD p65 (oG g62 false (o_neq g64 (ci 1))) <|
 kD p66 (oPick g62 (kV (.bool true)) g65) <|
 kD p67 (oMov g66) <|
 kD p68 (oG g67 false (oMov g17)) <|
 kD p69 (oG g67 false (oIdx 3 g68 (ci 0))) <|
 kD p70 (oG g67 false (oFld 1 g69)) <|
 kD p71 (oG g67 false (oLd false 1 g70)) <|
 kD p72 (oG g67 false (oMov g15)) <|
 kD p73 (oG g67 false (o_neq g71 g72)) <|
 kD p74 (oPick g67 (kV (.bool true)) g73) <|
 kD p75 (oMov g74) <|
 kD p76 (oG g75 false (oMov g17)) <|
 kD p77 (oG g75 false (oIdx 3 g76 (ci 0))) <|
 kD p78 (oG g75 false (oFld 2 g77)) <|
 kD p79 (oG g75 false (oLd false 1 g78)) <|
 kD p80 (oG g75 false (oLenS g79)) <|
 kD p81 (oG g75 false (o_neq g80 (ci 0))) <|
 kD p82 (oPick g75 (kV (.bool true)) g81) <|
 kCond g82 (kD p8 (oMov (kV (.bool false))) <|
 kRet) <|
 kEnd) <|
 kD p83 (oMov g9) <|
 kD p84 (oMov g13) <|
 kCall p85 (cF 19 (aC g83 (aC g84 aN))) <|
 kD p18 (oMov g85) <|
 kD p87 (oMov g9) <|
 kCall p88 (cF 21 (aC g87 (aC (kV (.str [1, 65, 0])) (aC (ci 1) aN)))) <|
 kD p86 (oMov g88) <|
 kD p89 (oExt g86 0) <|
 kD p90 (oExt g86 1) <|
 kD p19 (oMov g89) <|
 kD p20 (oMov g90) <|
 kD p91 (oMov g13) <|
 kD p92 (oMov g11) <|
 kD p93 (oMov g12) <|
 kD p94 (oPs (.minI (.t s92) [(.t s93), (.k (vi 3600))])) <|
 kD p95 (o_lss g91 g94) <|
 kD p21 (oMov g95) <|
 kD p96 (oMov g9) <|
 kCall p97 (cF 17 (aC g96 aN)) <|
 kD p17 (oMov g97) <|
 kD p98 (oMov g18) <|
 kCall p99 (cF 22 (aC g98 aN)) <|
 kD p100 (o_eql g99 (ci 0)) <|
 kD p101 (oMov g100) <|
 kD p102 (oG g101 true (oMov g20)) <|
 kCall p103 (cG g101 true (cF 22 (aC g102 aN))) <|
 kD p104 (oG g101 true (o_eql g103 (ci 0))) <|
 kD p105 (oPick g101 g104 (kV (.bool false))) <|
 kD p106 (oMov g105) <|
 kD p107 (oG g106 true (oMov g9)) <|
 kCall p108 (cG g106 true (cF 23 (aC g107 aN))) <|
 kD p109 (oG g106 true (oLenS g108)) <|
 kD p110 (oG g106 true (o_eql g109 (ci 0))) <|
 kD p111 (oG g106 true (oMov g21)) <|
 kD p112 (oG g106 true (oPs (.eqx false .b (.t s110) (.t s111)))) <|
 kD p113 (oPick g106 g112 (kV (.bool false))) <|
 kD p114 (oMov g113) <|
 kD p115 (oG g114 true (oMov g21)) <|
 kD p116 (oG g114 true (oNot g115)) <|
 kD p117 (oG g114 true (oMov g116)) <|
 kD p118 (oG g117 false (oMov g17)) <|
 kD p119 (oG g117 false (oLenS g118)) <|
 kD p120 (oG g117 false (o_eql g119 (ci 2))) <|
 kD p121 (oG g117 false (oMov g120)) <|
 kD p122 (oG g121 true (oMov g17)) <|
 kD p123 (oG g121 true (oIdx 3 g122 (ci 1))) <|
 kD p124 (oG g121 true (oFld 1 g123)) <|
 kD p125 (oG g121 true (oLd false 1 g124)) <|
 kD p126 (oG g121 true (oMov g15)) <|
 kD p127 (oG g121 true (o_eql g125 g126)) <|
 kD p128 (oG g117 false (oPick g121 g127 (kV (.bool false)))) <|
 kD p129 (oG g114 true (oPick g117 (kV (.bool true)) g128)) <|
 kD p130 (oPick g114 g129 (kV (.bool false))) <|
 kD p8 (oMov g130) <|
 kRet,
 (r1 g8)⟩
/-- wimple/wimplelaw24.IterLost -/
noncomputable def k5 : FnK := ⟨kD p6 (oMov (kV (.bool false))) <|
 kSeq (kCall p17 (cF 13 aN) <|
 kD p18 (oNot g17) <|
 kCond g18 (kD p6 (oMov (kV (.bool false))) <|
 kRet) <|
 kEnd) <|
 kCall p19 (cF 24 aN) <|
 kD p7 (oAlloc [(.ref .nilsl), (vi 0), (vi 0), (vi 0), (vi 0), (vi 0), (vi 0), (vi 0), (vi 0), (vi 0), (.ref .nilsl)]) <|
 kD0 (oSt 11 g7 g19) <|
 kD p20 (oMov g0) <|
 kD p21 (o_and g20 (ci 7)) <|
 kD p22 (o_add (ci 1) g21) <|
 kD p8 (oMov g22) <|
 kD p23 (oFld 0 g7) <|
 kD0 (oSt 1 g23 (kV (.ref .nilsl))) <|
 kSeq (kD p9 (oMov (ci 0)) <|
 kBlock 0 <|
 kLoop <|
 kSeq (kD p24 (oMov g9) <|
 kD p25 (oMov g8) <|
 kD p26 (o_lss g24 g25) <|
 kCond g26 (kEnd) <|
 kExit 0) <|
 kSeq (kBlock 1 <|
 kD p29 (oFld 0 g7) <|
 kD p30 (oLd false 1 g29) <|
 kD p31 (oMov g9) <|
 kD p32 (o_add (ci 10) g31) <|
 kD p33 (oBuild [(.str []), (vi 0)] (bC 0 1 (kV (.str [1, 114, 0])) (bC 1 1 g32 bN))) <|
 kD p34 (oAs (.bsl false true 0 2 1 [(.str []), (vi 0)] [(0, (.t s33))])) <|
 kD p35 (oApp 0 2 g30 g34 (oEs (.app false true 0 2 (.t s30) (.t s34)))) <|
 kD p36 (oFld 0 g7) <|
 kD0 (oSt 1 g36 g35) <|
 kEnd) <|
 kD p27 (oMov g9) <|
 kD p28 (o_add g27 (ci 1)) <|
 kD p9 (oMov g28) <|
 kEnd) <|
 kD p37 (oMov g1) <|
 kD p38 (o_and g37 (ci 1)) <|
 kD p39 (o_add (ci 1) g38) <|
 kD p40 (oFld 7 g7) <|
 kD0 (oSt 1 g40 g39) <|
 kD p41 (oMov g2) <|
 kD p42 (o_and g41 (ci 15)) <|
 kD p43 (o_add (ci 1) g42) <|
 kD p44 (oFld 6 g7) <|
 kD0 (oSt 1 g44 g43) <|
 kD p46 (oLd true 11 g7) <|
 kCall p47 (cF 25 (aC g46 aN)) <|
 kD p45 (oMov g47) <|
 kD p48 (oExt g45 0) <|
 kD p49 (oExt g45 1) <|
 kD p10 (oMov g48) <|
 kD p11 (oMov g49) <|
 kD p51 (oMov g10) <|
 kCall p52 (cF 21 (aC g51 (aC (kV (.str [1, 97, 0])) (aC (ci 1) aN)))) <|
 kD p50 (oMov g52) <|
 kD p53 (oExt g50 0) <|
 kD p54 (oExt g50 1) <|
 kD p12 (oMov g53) <|
 kD p13 (oMov g54) <|
 kSeq (kD p55 (oMov g11) <|
 kCall p56 (cF 22 (aC g55 aN)) <|
 kD p57 (o_neq g56 (ci 0)) <|
 kD p58 (oMov g57) <|
 kD p59 (oG g58 false (oMov g13)) <|
 kCall p60 (cG g58 false (cF 22 (aC g59 aN))) <|
 kD p61 (oG g58 false (o_neq g60 (ci 0))) <|
 kD p62 (oPick g58 (kV (.bool true)) g61) <|
 kCond g62 (kD p6 (oMov (kV (.bool false))) <|
 kRet) <|
 kEnd) <|
 kSeq (kD p14 (oMov (ci 1)) <|
 kBlock 2 <|
 kLoop <|
 kSeq (kD p63 (oMov g14) <|
 kD p64 (oMov g8) <|
 kD p65 (oFld 7 g7) <|
 kD p66 (oLd false 1 g65) <|
 kD p67 (o_mul g64 g66) <|
 kD p68 (o_leq g63 g67) <|
 kCond g68 (kEnd) <|
 kExit 2) <|
 kSeq (kBlock 3 <|
 kD p71 (oMov g10) <|
 kCall p72 (cF 26 (aC g71 aN)) <|
 kD p15 (oAlloc [(vi 0), (vi 0), (vi 0), (.str []), (.str []), (.str []), (vi 0), (vi 0)]) <|
 kD0 (oSt 8 g15 g72) <|
 kSeq (kD p73 (oMov g10) <|
 kD p76 (oMov g14) <|
 kCall p74 (cF 20 (aC g73 aN)) <|
 kD p75 (oLenS g74) <|
 kD p77 (o_neq g75 g76) <|
 kD p78 (oMov g77) <|
 kD p79 (oG g78 false (oFld 2 g15)) <|
 kD p80 (oG g78 false (oLd false 1 g79)) <|
 kD p81 (oG g78 false (oMov g14)) <|
 kD p82 (oG g78 false (o_sub g81 (ci 1))) <|
 kD p83 (oG g78 false (oMov g8)) <|
 kD p84 (oG g78 false (o_rem g82 g83)) <|
 kD p85 (oG g78 false (o_add (ci 10) g84)) <|
 kD p86 (oG g78 false (o_neq g80 g85)) <|
 kD p87 (oPick g78 (kV (.bool true)) g86) <|
 kD p88 (oMov g87) <|
 kD p89 (oG g88 false (oFld 7 g15)) <|
 kD p90 (oG g88 false (oLd false 1 g89)) <|
 kD p91 (oG g88 false (oMov g14)) <|
 kD p92 (oG g88 false (oFld 6 g7)) <|
 kD p93 (oG g88 false (oLd false 1 g92)) <|
 kD p94 (oG g88 false (o_mul g91 g93)) <|
 kD p95 (oG g88 false (o_neq g90 g94)) <|
 kD p96 (oPick g88 (kV (.bool true)) g95) <|
 kCond g96 (kD p6 (oMov (kV (.bool false))) <|
 kRet) <|
 kEnd) <|
 kD p97 (oMov g10) <|
 kD p98 (oFld 6 g7) <|
 kD p99 (oLd false 1 g98) <|
 kD p100 (o_sub g99 (ci 1)) <|
 kCall p101 (cF 19 (aC g97 (aC g100 aN))) <|
 kSeq (kD p102 (oMov g10) <|
 kCall p103 (cF 20 (aC g102 aN)) <|
 kD p104 (oLenS g103) <|
 kD p105 (oMov g14) <|
 kD p106 (o_neq g104 g105) <|
 kD p107 (oMov g106) <|
 kD p108 (oG g107 false (oMov g10)) <|
 kCall p109 (cG g107 false (cF 27 (aC g108 aN))) <|
 kD p110 (oG g107 false (o_neq g109 (ci 1))) <|
 kD p111 (oPick g107 (kV (.bool true)) g110) <|
 kCond g111 (kD p6 (oMov (kV (.bool false))) <|
 kRet) <|
 kEnd) <|
 kD p112 (oMov g10) <|
 kCall p113 (cF 19 (aC g112 (aC (ci 1) aN))) <|
 kEnd) <|
 kD p69 (oMov g14) <|
 kD p70 (o_add g69 (ci 1)) <|
 kD p14 (oMov g70) <|
 kEnd) <|
 kD p114 (oMov g10) <|
 kCall p115 (cF 17 (aC g114 aN)) <|
 kD p16 (oMov g115) <|
 kD p116 (oMov g16) <|
 kD p117 (oLenS g116) <|
 kD p118 (o_eql g117 (ci 1)) <|
 kD p119 (oMov g118) <|
 kD p120 (oG g119 true (oMov g16)) <|
 kD p121 (oG g119 true (oIdx 3 g120 (ci 0))) <|
 kD p122 (oG g119 true (oFld 1 g121)) <|
 kD p123 (oG g119 true (oLd false 1 g122)) <|
 kD p124 (oG g119 true (o_eql g123 (ci 2))) <|
 kD p125 (oPick g119 g124 (kV (.bool false))) <|
 kD p126 (oMov g125) <|
 kD p127 (oG g126 true (oMov g10)) <|
 kCall p128 (cG g126 true (cF 27 (aC g127 aN))) <|
 kD p129 (oG g126 true (o_eql g128 (ci 0))) <|
 kD p130 (oPick g126 g129 (kV (.bool false))) <|
 kD p131 (oMov g130) <|
 kD p132 (oG g131 true (oMov g10)) <|
 kCall p133 (cG g131 true (cF 23 (aC g132 aN))) <|
 kD p134 (oG g131 true (oLenS g133)) <|
 kD p135 (oG g131 true (o_eql g134 (ci 0))) <|
 kD p136 (oPick g131 g135 (kV (.bool false))) <|
 kD p6 (oMov g136) <|
 kRet,
 (r1 g6)⟩
/-- wimple/wimplelaw24.IterChases -/
noncomputable def k6 : FnK := ⟨kD p4 (oMov (kV (.bool false))) <|
 kSeq (kCall p15 (cF 13 aN) <|
 kD p16 (oNot g15) <|
 kCond g16 (kD p4 (oMov (kV (.bool false))) <|
 kRet) <|
 kEnd) <|
 kCall p17 (cF 24 aN) <|
 kD p5 (oAlloc [(.ref .nilsl), (vi 0), (vi 0), (vi 0), (vi 0), (vi 0), (vi 0), (vi 0), (vi 0), (vi 0), (.ref .nilsl)]) <|
 kD0 (oSt 11 g5 g17) <|
 kD p18 (oMov g1) <|
 kD p19 (oCvti .u64 g18) <|
 kD p20 (o_rem g19 (kV (.int .u64 (.c (.ofNat 9))))) <|
 kD p21 (oCvti .i64 g20) <|
 kD p22 (oFld 5 g5) <|
 kD0 (oSt 1 g22 g21) <|
 kD p24 (oLd true 11 g5) <|
 kCall p25 (cF 25 (aC g24 aN)) <|
 kD p23 (oMov g25) <|
 kD p26 (oExt g23 0) <|
 kD p27 (oExt g23 1) <|
 kD p6 (oMov g26) <|
 kD p7 (oMov g27) <|
 kD p29 (oMov g6) <|
 kCall p30 (cF 21 (aC g29 (aC (kV (.str [2, 99, 48, 0])) (aC (ci 1) aN)))) <|
 kD p28 (oMov g30) <|
 kD p31 (oExt g28 0) <|
 kD p32 (oExt g28 1) <|
 kD p8 (oMov g31) <|
 kD p9 (oMov g32) <|
 kD p33 (oMov g0) <|
 kD p34 (o_and g33 (ci 7)) <|
 kD p10 (oMov g34) <|
 kSeq (kD p11 (oMov (ci 0)) <|
 kBlock 0 <|
 kLoop <|
 kSeq (kD p35 (oMov g11) <|
 kD p36 (oMov g10) <|
 kD p37 (o_lss g35 g36) <|
 kCond g37 (kEnd) <|
 kExit 0) <|
 kSeq (kBlock 1 <|
 kSeq (kD p40 (oMov g6) <|
 kCall p41 (cF 23 (aC g40 aN)) <|
 kD p42 (oLenS g41) <|
 kD p43 (o_eql g42 (ci 0)) <|
 kCond g43 (kExit 0) <|
 kEnd) <|
 kD p44 (oMov g6) <|
 kD p45 (oBuild [(vi 0), (.bool false), (vi 0), (.bool false), (.bool false), (.bool false), (.bool false), (vi 0), (vi 0)] (bC 3 1 (kV (.bool true)) bN)) <|
 kD p46 (oMov g11) <|
 kD p47 (oCvti .u8 g46) <|
 kD p48 (o_add (kV (.int .u8 (.c (.ofNat 48)))) g47) <|
 kD p49 (oBsl1 1 1 1 (lC g48 lN)) <|
 kD p50 (oCvts g49 (oRs (.cvts (.t s49)))) <|
 kD p51 (o_add (kV (.str [2, 99])) g50) <|
 kD p52 (o_add g51 (kV (.str [0]))) <|
 kD p53 (oMov g11) <|
 kD p54 (oCvti .u8 g53) <|
 kD p55 (o_add (kV (.int .u8 (.c (.ofNat 49)))) g54) <|
 kD p56 (oBsl1 1 1 1 (lC g55 lN)) <|
 kD p57 (oCvts g56 (oRs (.cvts (.t s56)))) <|
 kD p58 (o_add (kV (.str [2, 67])) g57) <|
 kD p59 (o_add g58 (kV (.str [0]))) <|
 kCall p60 (cF 16 (aC g52 (aC (ci 5) (aC (ci 9) (aC g59 aN))))) <|
 kD p61 (oAs (.bsl false true 0 5 1 [(.str []), (vi 0), (vi 0), (vi 0), (.str [])] [(0, (.t s60))])) <|
 kD p62 (oBuild [(vi 0), (.bool false), (vi 0), (.bool false), (.bool false), (.bool false), (.bool false), (vi 0), (vi 0), (.ref .nilsl), (.ref .nilsl), (.ref .nilsl), (.ref .nilsl)] (bC 0 9 g45 (bC 10 1 g61 bN))) <|
 kCall p63 (cF 15 (aC g44 (aC g62 aN))) <|
 kEnd) <|
 kD p38 (oMov g11) <|
 kD p39 (o_add g38 (ci 1)) <|
 kD p11 (oMov g39) <|
 kEnd) <|
 kD p64 (oMov g6) <|
 kCall p65 (cF 17 (aC g64 aN)) <|
 kD p12 (oMov g65) <|
 kSeq (kD p66 (oMov g7) <|
 kCall p67 (cF 22 (aC g66 aN)) <|
 kD p68 (o_neq g67 (ci 0)) <|
 kD p69 (oMov g68) <|
 kD p70 (oG g69 false (oMov g9)) <|
 kCall p71 (cG g69 false (cF 22 (aC g70 aN))) <|
 kD p72 (oG g69 false (o_neq g71 (ci 0))) <|
 kD p73 (oPick g69 (kV (.bool true)) g72) <|
 kCond g73 (kD p4 (oMov (kV (.bool false))) <|
 kRet) <|
 kEnd) <|
 kSeq (kD p74 (oMov g10) <|
 kD p75 (oFld 5 g5) <|
 kD p76 (oLd false 1 g75) <|
 kD p77 (o_gtr g74 g76) <|
 kCond g77 (kD p78 (oMov g12) <|
 kD p79 (oLenS g78) <|
 kD p80 (o_eql g79 (ci 1)) <|
 kD p81 (oMov g80) <|
 kD p82 (oG g81 true (oMov g12)) <|
 kD p83 (oG g81 true (oIdx 3 g82 (ci 0))) <|
 kD p84 (oG g81 true (oFld 1 g83)) <|
 kD p85 (oG g81 true (oLd false 1 g84)) <|
 kD p86 (oG g81 true (o_eql g85 (ci 2))) <|
 kD p87 (oPick g81 g86 (kV (.bool false))) <|
 kD p88 (oMov g87) <|
 kD p89 (oG g88 true (oMov g12)) <|
 kD p90 (oG g88 true (oIdx 3 g89 (ci 0))) <|
 kD p91 (oG g88 true (oFld 2 g90)) <|
 kD p92 (oG g88 true (oLd false 1 g91)) <|
 kD p93 (oG g88 true (oLenS g92)) <|
 kD p94 (oG g88 true (o_eql g93 (ci 0))) <|
 kD p95 (oPick g88 g94 (kV (.bool false))) <|
 kD p4 (oMov g95) <|
 kRet) <|
 kEnd) <|
 kD p96 (oMov g10) <|
 kD p97 (oCvti .u8 g96) <|
 kD p98 (o_add (kV (.int .u8 (.c (.ofNat 48)))) g97) <|
 kD p99 (oBsl1 1 1 1 (lC g98 lN)) <|
 kD p100 (oCvts g99 (oRs (.cvts (.t s99)))) <|
 kD p101 (o_add (kV (.str [2, 99])) g100) <|
 kD p102 (o_add g101 (kV (.str [0]))) <|
 kD p13 (oMov g102) <|
 kSeq (kD p103 (oMov g12) <|
 kD p104 (oLenS g103) <|
 kD p105 (o_neq g104 (ci 0)) <|
 kD p106 (oMov g105) <|
 kD p107 (oG g106 false (oMov g6)) <|
 kCall p108 (cG g106 false (cF 26 (aC g107 aN))) <|
 kD p109 (oG g106 false (oFldv false 1 4 g108)) <|
 kD p110 (oG g106 false (oMov g13)) <|
 kD p111 (oG g106 false (o_neq g109 g110)) <|
 kD p112 (oPick g106 (kV (.bool true)) g111) <|
 kCond g112 (kD p4 (oMov (kV (.bool false))) <|
 kRet) <|
 kEnd) <|
 kD p113 (oMov g6) <|
 kD p114 (oBuild [(vi 0), (.bool false), (vi 0), (.bool false), (.bool false), (.bool false), (.bool false), (vi 0), (vi 0)] (bC 3 1 (kV (.bool true)) bN)) <|
 kD p115 (oMov g13) <|
 kCall p116 (cF 16 (aC g115 (aC (ci 1) (aC (ci 9) (aC (kV (.str [97, 98, 99, 100])) aN))))) <|
 kD p117 (oAs (.bsl false true 0 5 1 [(.str []), (vi 0), (vi 0), (vi 0), (.str [])] [(0, (.t s116))])) <|
 kD p118 (oBuild [(vi 0), (.bool false), (vi 0), (.bool false), (.bool false), (.bool false), (.bool false), (vi 0), (vi 0), (.ref .nilsl), (.ref .nilsl), (.ref .nilsl), (.ref .nilsl)] (bC 0 9 g114 (bC 10 1 g117 bN))) <|
 kCall p119 (cF 15 (aC g113 (aC g118 aN))) <|
 kD p120 (oMov g6) <|
 kCall p121 (cF 17 (aC g120 aN)) <|
 kD p12 (oMov g121) <|
 kSeq (kD p122 (oMov g12) <|
 kD p123 (oLenS g122) <|
 kD p124 (o_neq g123 (ci 1)) <|
 kD p125 (oMov g124) <|
 kD p126 (oG g125 false (oMov g12)) <|
 kD p127 (oG g125 false (oIdx 3 g126 (ci 0))) <|
 kD p128 (oG g125 false (oFld 1 g127)) <|
 kD p129 (oG g125 false (oLd false 1 g128)) <|
 kD p130 (oG g125 false (o_neq g129 (ci 0))) <|
 kD p131 (oPick g125 (kV (.bool true)) g130) <|
 kD p132 (oMov g131) <|
 kD p133 (oG g132 false (oMov g12)) <|
 kD p134 (oG g132 false (oIdx 3 g133 (ci 0))) <|
 kD p135 (oG g132 false (oFld 2 g134)) <|
 kD p136 (oG g132 false (oLd false 1 g135)) <|
 kD p137 (oG g132 false (oLenS g136)) <|
 kD p138 (oG g132 false (oMov g10)) <|
 kD p139 (oG g132 false (o_add g138 (ci 1))) <|
 kD p140 (oG g132 false (o_neq g137 g139)) <|
 kD p141 (oPick g132 (kV (.bool true)) g140) <|
 kCond g141 (kD p4 (oMov (kV (.bool false))) <|
 kRet) <|
 kEnd) <|
 kSeq (kD p14 (oMov (ci 0)) <|
 kBlock 2 <|
 kLoop <|
 kSeq (kD p142 (oMov g14) <|
 kD p143 (oMov g10) <|
 kD p144 (o_lss g142 g143) <|
 kCond g144 (kEnd) <|
 kExit 2) <|
 kSeq (kBlock 3 <|
 kD p147 (oMov g12) <|
 kD p148 (oIdx 3 g147 (ci 0)) <|
 kD p149 (oFld 2 g148) <|
 kD p150 (oLd false 1 g149) <|
 kD p151 (oMov g14) <|
 kD p152 (oIdx 4 g150 g151) <|
 kD p153 (oFld 1 g152) <|
 kD p154 (oLd false 1 g153) <|
 kD p155 (o_neq g154 (ci 5)) <|
 kD p156 (oMov g155) <|
 kD p157 (oG g156 false (oMov g12)) <|
 kD p158 (oG g156 false (oIdx 3 g157 (ci 0))) <|
 kD p159 (oG g156 false (oFld 2 g158)) <|
 kD p160 (oG g156 false (oLd false 1 g159)) <|
 kD p161 (oG g156 false (oMov g14)) <|
 kD p162 (oG g156 false (oIdx 4 g160 g161)) <|
 kD p163 (oG g156 false (oFld 0 g162)) <|
 kD p164 (oG g156 false (oLd false 1 g163)) <|
 kD p165 (oG g156 false (oMov g14)) <|
 kD p166 (oG g156 false (oCvti .u8 g165)) <|
 kD p167 (oG g156 false (o_add (kV (.int .u8 (.c (.ofNat 48)))) g166)) <|
 kD p168 (oG g156 false (oBsl1 1 1 1 (lC g167 lN))) <|
 kD p169 (oG g156 false (oCvts g168 (oRs (.cvts (.t s168))))) <|
 kD p170 (oG g156 false (o_add (kV (.str [2, 99])) g169)) <|
 kD p171 (oG g156 false (o_add g170 (kV (.str [0])))) <|
 kD p172 (oG g156 false (o_neq g164 g171)) <|
 kD p173 (oPick g156 (kV (.bool true)) g172) <|
 kCond g173 (kD p4 (oMov (kV (.bool false))) <|
 kRet) <|
 kEnd) <|
 kD p145 (oMov g14) <|
 kD p146 (o_add g145 (ci 1)) <|
 kD p14 (oMov g146) <|
 kEnd) <|
 kD p174 (oMov g12) <|
 kD p175 (oIdx 3 g174 (ci 0)) <|
 kD p176 (oFld 2 g175) <|
 kD p177 (oLd false 1 g176) <|
 kD p178 (oMov g10) <|
 kD p179 (oIdx 4 g177 g178) <|
 kD p180 (oLd true 4 g179) <|
 kD p181 (oMov g13) <|
 kD p182 (oBsl1 0 1 1 (lC (kV (.str [97, 98, 99, 100])) lN)) <|
 kD p183 (oBuild [(.str []), (vi 0), (vi 0), (.ref .nilsl)] (bC 0 1 g181 (bC 1 1 (ci 1) (bC 2 1 (ci 9) (bC 3 1 g182 bN))))) <|
 kCall p184 (cF 28 (aC g180 (aC g183 aN))) <|
 kD p4 (oMov g184) <|
 kRet,
 (r1 g4)⟩
/-- wimple/wimplelaw24.IterHosts -/
noncomputable def k7 : FnK := ⟨kD p4 (oMov (kV (.bool false))) <|
 kSeq (kCall p16 (cF 13 aN) <|
 kD p17 (oNot g16) <|
 kCond g17 (kD p4 (oMov (kV (.bool false))) <|
 kRet) <|
 kEnd) <|
 kCall p18 (cF 24 aN) <|
 kD p5 (oAlloc [(.ref .nilsl), (vi 0), (vi 0), (vi 0), (vi 0), (vi 0), (vi 0), (vi 0), (vi 0), (vi 0), (.ref .nilsl)]) <|
 kD0 (oSt 11 g5 g18) <|
 kD p19 (oMov g0) <|
 kD p20 (oCvti .u64 g19) <|
 kD p21 (o_rem g20 (kV (.int .u64 (.c (.ofNat 5))))) <|
 kD p22 (oCvti .i64 g21) <|
 kD p23 (oFld 4 g5) <|
 kD0 (oSt 1 g23 g22) <|
 kD p25 (oLd true 11 g5) <|
 kCall p26 (cF 25 (aC g25 aN)) <|
 kD p24 (oMov g26) <|
 kD p27 (oExt g24 0) <|
 kD p28 (oExt g24 1) <|
 kD p6 (oMov g27) <|
 kD p7 (oMov g28) <|
 kD p30 (oMov g6) <|
 kCall p31 (cF 21 (aC g30 (aC (kV (.str [1, 97, 1, 99, 0])) (aC (ci 16) aN)))) <|
 kD p29 (oMov g31) <|
 kD p32 (oExt g29 0) <|
 kD p33 (oExt g29 1) <|
 kD p8 (oMov g32) <|
 kD p9 (oMov g33) <|
 kSeq (kD p34 (oMov g7) <|
 kCall p35 (cF 22 (aC g34 aN)) <|
 kD p36 (o_neq g35 (ci 0)) <|
 kD p37 (oMov g36) <|
 kD p38 (oG g37 false (oMov g9)) <|
 kCall p39 (cG g37 false (cF 22 (aC g38 aN))) <|
 kD p40 (oG g37 false (o_neq g39 (ci 0))) <|
 kD p41 (oPick g37 (kV (.bool true)) g40) <|
 kCond g41 (kD p4 (oMov (kV (.bool false))) <|
 kRet) <|
 kEnd) <|
 kD p42 (oMov g6) <|
 kCall p43 (cF 16 (aC (kV (.str [1, 99, 0])) (aC (ci 2) (aC (ci 50) (aC (kV (.str [1, 104, 0])) aN))))) <|
 kD p44 (oAs (.bsl false true 0 5 1 [(.str []), (vi 0), (vi 0), (vi 0), (.str [])] [(0, (.t s43))])) <|
 kD p45 (oBuild [(vi 0), (.bool false), (vi 0), (.bool false), (.bool false), (.bool false), (.bool false), (vi 0), (vi 0), (.ref .nilsl), (.ref .nilsl), (.ref .nilsl), (.ref .nilsl)] (bC 11 1 g44 bN)) <|
 kCall p46 (cF 15 (aC g42 (aC g45 aN))) <|
 kD p10 (oMov g46) <|
 kSeq (kD p47 (oFld 4 g5) <|
 kD p48 (oLd false 1 g47) <|
 kD p49 (o_eql g48 (ci 0)) <|
 kCond g49 (kD p50 (oMov g6) <|
 kCall p51 (cF 17 (aC g50 aN)) <|
 kD p11 (oMov g51) <|
 kD p52 (oMov g10) <|
 kD p53 (oMov g52) <|
 kD p54 (oG g53 true (oMov g11)) <|
 kD p55 (oG g53 true (oLenS g54)) <|
 kD p56 (oG g53 true (o_eql g55 (ci 1))) <|
 kD p57 (oPick g53 g56 (kV (.bool false))) <|
 kD p58 (oMov g57) <|
 kD p59 (oG g58 true (oMov g11)) <|
 kD p60 (oG g58 true (oIdx 3 g59 (ci 0))) <|
 kD p61 (oG g58 true (oFld 1 g60)) <|
 kD p62 (oG g58 true (oLd false 1 g61)) <|
 kD p63 (oG g58 true (o_eql g62 (ci 2))) <|
 kD p64 (oPick g58 g63 (kV (.bool false))) <|
 kD p4 (oMov g64) <|
 kRet) <|
 kEnd) <|
 kD p65 (oMov g6) <|
 kCall p66 (cF 26 (aC g65 aN)) <|
 kD p12 (oAlloc [(vi 0), (vi 0), (vi 0), (.str []), (.str []), (.str []), (vi 0), (vi 0)]) <|
 kD0 (oSt 8 g12 g66) <|
 kSeq (kD p67 (oMov g10) <|
 kD p68 (oNot g67) <|
 kD p69 (oMov g68) <|
 kD p70 (oG g69 false (oFld 5 g12)) <|
 kD p71 (oG g69 false (oLd true 2 g70)) <|
 kD p72 (oG g69 false (oBuild [(.str []), (vi 0)] (bC 0 1 (kV (.str [1, 104, 0])) (bC 1 1 (ci 1) bN)))) <|
 kD p73 (oG g69 false (oPs (.eqa true [.str, (.int .i64)] (.t s71) (.t s72)))) <|
 kD p74 (oPick g69 (kV (.bool true)) g73) <|
 kD p75 (oMov g74) <|
 kD p76 (oG g75 false (oFld 2 g12)) <|
 kD p77 (oG g75 false (oLd false 1 g76)) <|
 kD p78 (oG g75 false (o_neq g77 (ci 1))) <|
 kD p79 (oPick g75 (kV (.bool true)) g78) <|
 kD p80 (oMov g79) <|
 kD p81 (oG g80 false (oFld 0 g12)) <|
 kD p82 (oG g80 false (oLd false 1 g81)) <|
 kD p83 (oG g80 false (o_neq g82 (ci 1))) <|
 kD p84 (oPick g80 (kV (.bool true)) g83) <|
 kCond g84 (kD p4 (oMov (kV (.bool false))) <|
 kRet) <|
 kEnd) <|
 kD p85 (oMov g1) <|
 kD p86 (o_and g85 (ci 255)) <|
 kD p13 (oMov g86) <|
 kD p87 (oMov g6) <|
 kD p88 (oBuild [(vi 0), (.bool false), (vi 0), (.bool false), (.bool false), (.bool false), (.bool false), (vi 0), (vi 0)] (bC 3 1 (kV (.bool true)) bN)) <|
 kD p89 (oMov g13) <|
 kD p90 (oCvti .u8 g89) <|
 kD p91 (oBsl1 1 1 1 (lC g90 lN)) <|
 kD p92 (oCvts g91 (oRs (.cvts (.t s91)))) <|
 kD p93 (o_add (kV (.str [0, 0, 3])) g92) <|
 kCall p94 (cF 16 (aC (kV (.str [1, 104, 0])) (aC (ci 1) (aC (ci 40) (aC g93 aN))))) <|
 kD p95 (oAs (.bsl false true 0 5 1 [(.str []), (vi 0), (vi 0), (vi 0), (.str [])] [(0, (.t s94))])) <|
 kD p96 (oBuild [(vi 0), (.bool false), (vi 0), (.bool false), (.bool false), (.bool false), (.bool false), (vi 0), (vi 0), (.ref .nilsl), (.ref .nilsl), (.ref .nilsl), (.ref .nilsl)] (bC 0 9 g88 (bC 10 1 g95 bN))) <|
 kCall p97 (cF 15 (aC g87 (aC g96 aN))) <|
 kD p14 (oMov g97) <|
 kD p98 (oMov g6) <|
 kCall p99 (cF 26 (aC g98 aN)) <|
 kD p15 (oAlloc [(vi 0), (vi 0), (vi 0), (.str []), (.str []), (.str []), (vi 0), (vi 0)]) <|
 kD0 (oSt 8 g15 g99) <|
 kD p100 (oMov g14) <|
 kD p101 (oMov g100) <|
 kD p102 (oG g101 true (oFld 2 g15)) <|
 kD p103 (oG g101 true (oLd false 1 g102)) <|
 kD p104 (oG g101 true (oMov g13)) <|
 kD p105 (oG g101 true (o_add (ci 768) g104)) <|
 kD p106 (oG g101 true (o_eql g103 g105)) <|
 kD p107 (oPick g101 g106 (kV (.bool false))) <|
 kD p108 (oMov g107) <|
 kD p109 (oG g108 true (oFld 3 g15)) <|
 kD p110 (oG g108 true (oLd false 1 g109)) <|
 kD p111 (oG g108 true (o_eql g110 (kV (.str [1, 99, 0])))) <|
 kD p112 (oPick g108 g111 (kV (.bool false))) <|
 kD p113 (oMov g112) <|
 kD p114 (oG g113 true (oFld 5 g15)) <|
 kD p115 (oG g113 true (oLd true 2 g114)) <|
 kD p116 (oG g113 true (oBuild [(.str []), (vi 0)] (bC 0 1 (kV (.str [1, 97, 1, 99, 0])) (bC 1 1 (ci 16) bN)))) <|
 kD p117 (oG g113 true (oPs (.eqa false [.str, (.int .i64)] (.t s115) (.t s116)))) <|
 kD p118 (oPick g113 g117 (kV (.bool false))) <|
 kD p119 (oMov g118) <|
 kD p120 (oG g119 true (oMov g6)) <|
 kCall p121 (cG g119 true (cF 20 (aC g120 aN))) <|
 kD p122 (oG g119 true (oLenS g121)) <|
 kD p123 (oG g119 true (o_eql g122 (ci 3))) <|
 kD p124 (oPick g119 g123 (kV (.bool false))) <|
 kD p4 (oMov g124) <|
 kRet,
 (r1 g4)⟩
/-- wimple/wimplelaw24.IterIds -/
noncomputable def k8 : FnK := ⟨kD p2 (oMov (kV (.bool false))) <|
 kSeq (kCall p12 (cF 13 aN) <|
 kD p13 (oNot g12) <|
 kCond g13 (kD p2 (oMov (kV (.bool false))) <|
 kRet) <|
 kEnd) <|
 kCall p14 (cF 24 aN) <|
 kD p3 (oAlloc [(.ref .nilsl), (vi 0), (vi 0), (vi 0), (vi 0), (vi 0), (vi 0), (vi 0), (vi 0), (vi 0), (.ref .nilsl)]) <|
 kD0 (oSt 11 g3 g14) <|
 kD p15 (oFld 10 g3) <|
 kD0 (oSt 1 g15 (kV (.ref .nilsl))) <|
 kSeq (kD p4 (oMov (ci 0)) <|
 kBlock 0 <|
 kLoop <|
 kSeq (kD p16 (oMov g4) <|
 kD p17 (oMov g0) <|
 kD p18 (oLenS g17) <|
 kD p19 (o_lss g16 g18) <|
 kD p20 (oMov g19) <|
 kD p21 (oG g20 true (oMov g4)) <|
 kD p22 (oG g20 true (o_lss g21 (ci 12))) <|
 kD p23 (oPick g20 g22 (kV (.bool false))) <|
 kCond g23 (kEnd) <|
 kExit 0) <|
 kSeq (kBlock 1 <|
 kD p26 (oFld 10 g3) <|
 kD p27 (oLd false 1 g26) <|
 kD p28 (oMov g0) <|
 kD p29 (oMov g4) <|
 kD p30 (oIdx 1 g28 g29) <|
 kD p31 (oLd false 1 g30) <|
 kD p32 (oBsl1 0 1 1 (lC g31 lN)) <|
 kD p33 (oApp 0 1 g27 g32 (oEs (.app false false 0 1 (.t s27) (.t s32)))) <|
 kD p34 (oFld 10 g3) <|
 kD0 (oSt 1 g34 g33) <|
 kEnd) <|
 kD p24 (oMov g4) <|
 kD p25 (o_add g24 (ci 1)) <|
 kD p4 (oMov g25) <|
 kEnd) <|
 kD p36 (oLd true 11 g3) <|
 kCall p37 (cF 25 (aC g36 aN)) <|
 kD p35 (oMov g37) <|
 kD p38 (oExt g35 0) <|
 kD p39 (oExt g35 1) <|
 kD p5 (oMov g38) <|
 kD p6 (oMov g39) <|
 kD p41 (oMov g5) <|
 kCall p42 (cF 21 (aC g41 (aC (kV (.str [1, 97, 0])) (aC (ci 1) aN)))) <|
 kD p40 (oMov g42) <|
 kD p43 (oExt g40 0) <|
 kD p44 (oExt g40 1) <|
 kD p7 (oMov g43) <|
 kD p8 (oMov g44) <|
 kSeq (kD p45 (oMov g6) <|
 kCall p46 (cF 22 (aC g45 aN)) <|
 kD p47 (o_neq g46 (ci 0)) <|
 kD p48 (oMov g47) <|
 kD p49 (oG g48 false (oMov g8)) <|
 kCall p50 (cG g48 false (cF 22 (aC g49 aN))) <|
 kD p51 (oG g48 false (o_neq g50 (ci 0))) <|
 kD p52 (oPick g48 (kV (.bool true)) g51) <|
 kCond g52 (kD p2 (oMov (kV (.bool false))) <|
 kRet) <|
 kEnd) <|
 kSeq (kD p9 (oMov (ci 0)) <|
 kBlock 2 <|
 kLoop <|
 kSeq (kD p53 (oMov g9) <|
 kD p54 (oFld 10 g3) <|
 kD p55 (oLd false 1 g54) <|
 kD p56 (oLenS g55) <|
 kD p57 (o_lss g53 g56) <|
 kD p58 (oMov g57) <|
 kD p59 (oG g58 true (oMov g9)) <|
 kD p60 (oG g58 true (o_lss g59 (ci 2))) <|
 kD p61 (oPick g58 g60 (kV (.bool false))) <|
 kCond g61 (kEnd) <|
 kExit 2) <|
 kSeq (kBlock 3 <|
 kD p64 (oMov g5) <|
 kCall p65 (cF 20 (aC g64 aN)) <|
 kD p10 (oMov g65) <|
 kSeq (kD p66 (oMov g10) <|
 kD p67 (oLenS g66) <|
 kD p68 (oMov g9) <|
 kD p69 (o_add g68 (ci 1)) <|
 kD p70 (o_neq g67 g69) <|
 kD p71 (oMov g70) <|
 kD p72 (oG g71 false (oMov g10)) <|
 kD p73 (oG g71 false (oMov g9)) <|
 kD p74 (oG g71 false (oIdx 2 g72 g73)) <|
 kD p75 (oG g71 false (oFld 1 g74)) <|
 kD p76 (oG g71 false (oLd false 1 g75)) <|
 kD p77 (oG g71 false (oLenT g76)) <|
 kD p78 (oG g71 false (o_lss g77 (ci 2))) <|
 kD p79 (oPick g71 (kV (.bool true)) g78) <|
 kD p80 (oMov g79) <|
 kD p81 (oG g80 false (oMov g10)) <|
 kD p82 (oG g80 false (oMov g9)) <|
 kD p83 (oG g80 false (oIdx 2 g81 g82)) <|
 kD p84 (oG g80 false (oFld 1 g83)) <|
 kD p85 (oG g80 false (oLd false 1 g84)) <|
 kD p86 (oG g80 false (oIdxs g85 (ci 0))) <|
 kD p87 (oG g80 false (oCvti .i64 g86)) <|
 kD p88 (oG g80 false (o_shl g87 (kV (.int .u64 (.c (.ofNat 8)))))) <|
 kD p89 (oG g80 false (oMov g10)) <|
 kD p90 (oG g80 false (oMov g9)) <|
 kD p91 (oG g80 false (oIdx 2 g89 g90)) <|
 kD p92 (oG g80 false (oFld 1 g91)) <|
 kD p93 (oG g80 false (oLd false 1 g92)) <|
 kD p94 (oG g80 false (oIdxs g93 (ci 1))) <|
 kD p95 (oG g80 false (oCvti .i64 g94)) <|
 kD p96 (oG g80 false (o_or g88 g95)) <|
 kD p97 (oG g80 false (oFld 10 g3)) <|
 kD p98 (oG g80 false (oLd false 1 g97)) <|
 kD p99 (oG g80 false (oMov g9)) <|
 kD p100 (oG g80 false (oIdx 1 g98 g99)) <|
 kD p101 (oG g80 false (oLd false 1 g100)) <|
 kD p102 (oG g80 false (o_and g101 (ci 65535))) <|
 kD p103 (oG g80 false (o_neq g96 g102)) <|
 kD p104 (oPick g80 (kV (.bool true)) g103) <|
 kCond g104 (kD p2 (oMov (kV (.bool false))) <|
 kRet) <|
 kEnd) <|
 kD p105 (oMov g5) <|
 kD p106 (oFld 6 g3) <|
 kD p107 (oLd false 1 g106) <|
 kCall p108 (cF 19 (aC g105 (aC g107 aN))) <|
 kEnd) <|
 kD p62 (oMov g9) <|
 kD p63 (o_add g62 (ci 1)) <|
 kD p9 (oMov g63) <|
 kEnd) <|
 kSeq (kD p109 (oFld 10 g3) <|
 kD p110 (oLd false 1 g109) <|
 kD p111 (oLenS g110) <|
 kD p112 (o_lss g111 (ci 2)) <|
 kCond g112 (kD p113 (oMov g5) <|
 kCall p114 (cF 17 (aC g113 aN)) <|
 kD p11 (oMov g114) <|
 kD p115 (oMov g11) <|
 kD p116 (oLenS g115) <|
 kD p117 (o_eql g116 (ci 1)) <|
 kD p118 (oMov g117) <|
 kD p119 (oG g118 true (oMov g11)) <|
 kD p120 (oG g118 true (oIdx 3 g119 (ci 0))) <|
 kD p121 (oG g118 true (oFld 1 g120)) <|
 kD p122 (oG g118 true (oLd false 1 g121)) <|
 kD p123 (oG g118 true (o_eql g122 (ci 2))) <|
 kD p124 (oPick g118 g123 (kV (.bool false))) <|
 kD p125 (oMov g124) <|
 kD p126 (oG g125 true (oMov g5)) <|
 kD p129 (oG g125 true (oFld 10 g3)) <|
 kD p130 (oG g125 true (oLd false 1 g129)) <|
 kD p131 (oG g125 true (oLenS g130)) <|
 kCall p127 (cG g125 true (cF 20 (aC g126 aN))) <|
 kChkG g125 true g130 (oLd false 1 g129) <|
 kD p128 (oG g125 true (oLenS g127)) <|
 kD p132 (oG g125 true (o_eql g128 g131)) <|
 kD p133 (oPick g125 g132 (kV (.bool false))) <|
 kD p2 (oMov g133) <|
 kRet) <|
 kEnd) <|
 kD p2 (oMov (kV (.bool true))) <|
 kRet,
 (r1 g2)⟩
/-- wimple/wimplelaw24.awake -/
noncomputable def k13 : FnK := ⟨kD p0 (oMov (kV (.bool false))) <|
 kCall p16 (cF 24 aN) <|
 kCall p17 (cF 25 (aC g16 aN)) <|
 kD p15 (oMov g17) <|
 kD p18 (oExt g15 0) <|
 kD p19 (oExt g15 1) <|
 kD p1 (oMov g18) <|
 kD p2 (oMov g19) <|
 kD p21 (oBuild [(.ref .nilsl), (vi 0), (vi 0), (vi 0), (vi 0), (vi 0), (vi 0), (vi 0), (vi 0), (vi 0), (.ref .nilsl)] bN) <|
 kCall p22 (cF 25 (aC g21 aN)) <|
 kD p20 (oMov g22) <|
 kD p23 (oExt g20 0) <|
 kD p24 (oExt g20 1) <|
 kD p3 (oMov g23) <|
 kD p4 (oMov g24) <|
 kSeq (kD p25 (oMov g2) <|
 kCall p26 (cF 22 (aC g25 aN)) <|
 kD p27 (o_neq g26 (ci 0)) <|
 kD p28 (oMov g27) <|
 kD p29 (oG g28 false (oMov g1)) <|
 kD p30 (oG g28 false (oPs (.eqx false .p (.t s29) (.k (.ref .nilptr))))) <|
 kD p31 (oPick g28 (kV (.bool true)) g30) <|
 kCond g31 (kD p0 (oMov (kV (.bool false))) <|
 kRet) <|
 kEnd) <|
 kD p33 (oMov g1) <|
 kCall p34 (cF 21 (aC g33 (aC (kV (.str [1, 97, 1, 98, 0])) (aC (ci 1) aN)))) <|
 kD p32 (oMov g34) <|
 kD p35 (oExt g32 0) <|
 kD p36 (oExt g32 1) <|
 kD p5 (oMov g35) <|
 kD p6 (oMov g36) <|
 kD p37 (oMov g1) <|
 kCall p38 (cF 20 (aC g37 aN)) <|
 kD p7 (oMov g38) <|
 kD p39 (oMov g1) <|
 kCall p40 (cF 23 (aC g39 aN)) <|
 kD p8 (oMov g40) <|
 kSeq (kD p41 (oMov g7) <|
 kD p42 (oLenS g41) <|
 kD p43 (o_neq g42 (ci 1)) <|
 kD p44 (oMov g43) <|
 kD p45 (oG g44 false (oMov g8)) <|
 kD p46 (oG g44 false (oLenS g45)) <|
 kD p47 (oG g44 false (o_neq g46 (ci 1))) <|
 kD p48 (oPick g44 (kV (.bool true)) g47) <|
 kCond g48 (kD p0 (oMov (kV (.bool false))) <|
 kRet) <|
 kEnd) <|
 kD p50 (oMov g7) <|
 kD p51 (oIdx 2 g50 (ci 0)) <|
 kD p52 (oFld 1 g51) <|
 kD p53 (oLd false 1 g52) <|
 kCall p54 (cF 36 (aC g53 aN)) <|
 kD p49 (oMov g54) <|
 kD p55 (oExt g49 0) <|
 kD p56 (oExt g49 1) <|
 kD p9 (oAlloc [(vi 0), (.bool false), (vi 0), (.bool false), (.bool false), (.bool false), (.bool false), (vi 0), (vi 0), (.ref .nilsl), (.ref .nilsl), (.ref .nilsl), (.ref .nilsl)]) <|
 kD0 (oSt 13 g9 g55) <|
 kD p10 (oMov g56) <|
 kD p57 (oMov g1) <|
 kCall p58 (cF 19 (aC g57 (aC (ci 5) aN))) <|
 kD p11 (oMov g58) <|
 kD p60 (oMov g1) <|
 kCall p61 (cF 21 (aC g60 (aC (kV (.str [])) (aC (ci 1) aN)))) <|
 kD p59 (oMov g61) <|
 kD p62 (oExt g59 0) <|
 kD p63 (oExt g59 1) <|
 kD p12 (oMov g62) <|
 kD p13 (oMov g63) <|
 kD p64 (oMov g1) <|
 kCall p65 (cF 33 (aC g64 (aC (ci 1) (aC (kV (.str [120])) aN)))) <|
 kD p14 (oMov g65) <|
 kD p66 (oMov g4) <|
 kCall p67 (cF 22 (aC g66 aN)) <|
 kD p68 (o_eql g67 (ci 2400)) <|
 kD p69 (oMov g68) <|
 kD p70 (oG g69 true (oMov g5)) <|
 kD p71 (oG g69 true (o_eql g70 (ci 1))) <|
 kD p72 (oPick g69 g71 (kV (.bool false))) <|
 kD p73 (oMov g72) <|
 kD p74 (oG g73 true (oMov g6)) <|
 kCall p75 (cG g73 true (cF 22 (aC g74 aN))) <|
 kD p76 (oG g73 true (o_eql g75 (ci 0))) <|
 kD p77 (oPick g73 g76 (kV (.bool false))) <|
 kD p78 (oMov g77) <|
 kD p79 (oG g78 true (oMov g7)) <|
 kD p80 (oG g78 true (oIdx 2 g79 (ci 0))) <|
 kD p81 (oG g78 true (oFld 0 g80)) <|
 kD p82 (oG g78 true (oLd false 1 g81)) <|
 kD p83 (oG g78 true (o_eql g82 (ci 1))) <|
 kD p84 (oPick g78 g83 (kV (.bool false))) <|
 kD p85 (oMov g84) <|
 kD p86 (oG g85 true (oMov g10)) <|
 kD p87 (oG g85 true (o_eql g86 (ci 0))) <|
 kD p88 (oPick g85 g87 (kV (.bool false))) <|
 kD p89 (oMov g88) <|
 kD p90 (oG g89 true (oFld 9 g9)) <|
 kD p91 (oG g89 true (oLd false 1 g90)) <|
 kD p92 (oG g89 true (oLenS g91)) <|
 kD p93 (oG g89 true (o_eql g92 (ci 1))) <|
 kD p94 (oPick g89 g93 (kV (.bool false))) <|
 kD p95 (oMov g94) <|
 kD p96 (oG g95 true (oFld 9 g9)) <|
 kD p97 (oG g95 true (oLd false 1 g96)) <|
 kD p98 (oG g95 true (oIdx 3 g97 (ci 0))) <|
 kD p99 (oG g95 true (oFld 0 g98)) <|
 kD p100 (oG g95 true (oLd false 1 g99)) <|
 kD p101 (oG g95 true (o_eql g100 (kV (.str [1, 98, 0])))) <|
 kD p102 (oPick g95 g101 (kV (.bool false))) <|
 kD p103 (oMov g102) <|
 kD p104 (oG g103 true (oFld 0 g9)) <|
 kD p105 (oG g103 true (oFld 0 g104)) <|
 kD p106 (oG g103 true (oLd false 1 g105)) <|
 kD p107 (oG g103 true (o_eql g106 (ci 1))) <|
 kD p108 (oPick g103 g107 (kV (.bool false))) <|
 kD p109 (oMov g108) <|
 kD p110 (oG g109 true (oMov g8)) <|
 kD p111 (oG g109 true (oIdx 8 g110 (ci 0))) <|
 kD p112 (oG g109 true (oFld 7 g111)) <|
 kD p113 (oG g109 true (oLd false 1 g112)) <|
 kD p114 (oG g109 true (o_eql g113 (ci 5))) <|
 kD p115 (oPick g109 g114 (kV (.bool false))) <|
 kD p116 (oMov g115) <|
 kD p117 (oG g116 true (oMov g8)) <|
 kD p118 (oG g116 true (oIdx 8 g117 (ci 0))) <|
 kD p119 (oG g116 true (oFld 4 g118)) <|
 kD p120 (oG g116 true (oLd false 1 g119)) <|
 kD p121 (oG g116 true (o_eql g120 (kV (.str [1, 97, 1, 98, 0])))) <|
 kD p122 (oPick g116 g121 (kV (.bool false))) <|
 kD p123 (oMov g122) <|
 kD p124 (oG g123 true (oMov g11)) <|
 kCall p125 (cG g123 true (cF 22 (aC g124 aN))) <|
 kD p126 (oG g123 true (o_eql g125 (ci 0))) <|
 kD p127 (oPick g123 g126 (kV (.bool false))) <|
 kD p128 (oMov g127) <|
 kD p129 (oG g128 true (oMov g1)) <|
 kCall p130 (cG g128 true (cF 20 (aC g129 aN))) <|
 kD p131 (oG g128 true (oLenS g130)) <|
 kD p132 (oG g128 true (o_eql g131 (ci 2))) <|
 kD p133 (oPick g128 g132 (kV (.bool false))) <|
 kD p134 (oMov g133) <|
 kD p135 (oG g134 true (oMov g1)) <|
 kCall p136 (cG g134 true (cF 29 (aC g135 aN))) <|
 kD p137 (oG g134 true (o_eql g136 (ci 5))) <|
 kD p138 (oPick g134 g137 (kV (.bool false))) <|
 kD p139 (oMov g138) <|
 kD p140 (oG g139 true (oMov g13)) <|
 kCall p141 (cG g139 true (cF 22 (aC g140 aN))) <|
 kD p142 (oG g139 true (o_eql g141 (ci 2400))) <|
 kD p143 (oPick g139 g142 (kV (.bool false))) <|
 kD p144 (oMov g143) <|
 kD p145 (oG g144 true (oMov g14)) <|
 kD p146 (oG g144 true (oNot g145)) <|
 kD p147 (oPick g144 g146 (kV (.bool false))) <|
 kD p148 (oMov g147) <|
 kD p149 (oG g148 true (oMov g1)) <|
 kCall p150 (cG g148 true (cF 27 (aC g149 aN))) <|
 kD p151 (oG g148 true (o_eql g150 (ci 1))) <|
 kD p152 (oPick g148 g151 (kV (.bool false))) <|
 kD p0 (oMov g152) <|
 kRet,
 (r1 g0)⟩
/-- wimple/wimplelaw24.fresh -/
noncomputable def k14 : FnK := ⟨kD p4 (oMov (kV (.ref .nilptr))) <|
 kD p5 (oMov (kV (.bool false))) <|
 kCall p11 (cF 24 aN) <|
 kCall p12 (cF 25 (aC g11 aN)) <|
 kD p10 (oMov g12) <|
 kD p13 (oExt g10 0) <|
 kD p14 (oExt g10 1) <|
 kD p6 (oMov g13) <|
 kD p7 (oMov g14) <|
 kSeq (kD p15 (oMov g7) <|
 kCall p16 (cF 22 (aC g15 aN)) <|
 kD p17 (o_neq g16 (ci 0)) <|
 kD p18 (oMov g17) <|
 kD p19 (oG g18 false (oMov g6)) <|
 kD p20 (oG g18 false (oPs (.eqx false .p (.t s19) (.k (.ref .nilptr))))) <|
 kD p21 (oPick g18 (kV (.bool true)) g20) <|
 kCond g21 (kD p4 (oMov (kV (.ref .nilptr))) <|
 kD p5 (oMov (kV (.bool false))) <|
 kRet) <|
 kEnd) <|
 kD p23 (oMov g6) <|
 kD p24 (oMov g0) <|
 kD p25 (oMov g1) <|
 kCall p26 (cF 21 (aC g23 (aC g24 (aC g25 aN)))) <|
 kD p22 (oMov g26) <|
 kD p27 (oExt g22 0) <|
 kD p28 (oExt g22 1) <|
 kD p8 (oMov g27) <|
 kD p9 (oMov g28) <|
 kD p29 (oMov g6) <|
 kD p30 (oMov g9) <|
 kCall p31 (cF 22 (aC g30 aN)) <|
 kD p32 (o_eql g31 (ci 0)) <|
 kD p33 (oMov g32) <|
 kD p34 (oG g33 true (oMov g6)) <|
 kCall p35 (cG g33 true (cF 23 (aC g34 aN))) <|
 kD p36 (oG g33 true (oLenS g35)) <|
 kD p37 (oG g33 true (o_eql g36 (ci 1))) <|
 kD p38 (oPick g33 g37 (kV (.bool false))) <|
 kD p4 (oMov g29) <|
 kD p5 (oMov g38) <|
 kRet,
 (r2 g4 g5)⟩
/-- wimple/wimplelaw24.tell -/
noncomputable def k15 : FnK := ⟨kD p3 (oBox g1) <|
 kD p4 (oMov (kV (.bool false))) <|
 kD p6 (oMov g0) <|
 kCall p7 (cF 23 (aC g6 aN)) <|
 kD p5 (oMov g7) <|
 kD p8 (oMov g5) <|
 kD p9 (oLenS g8) <|
 kD p10 (o_gtr g9 (ci 0)) <|
 kD p11 (oMov g10) <|
 kD p12 (oG g11 true (oMov g0)) <|
 kD p13 (oG g11 true (oMov g5)) <|
 kD p14 (oG g11 true (oIdx 8 g13 (ci 0))) <|
 kD p15 (oG g11 true (oFld 2 g14)) <|
 kD p16 (oG g11 true (oLd false 1 g15)) <|
 kD p17 (oG g11 true (oLd true 13 g3)) <|
 kD p18 (oG g11 true (oMov g5)) <|
 kD p19 (oG g11 true (oIdx 8 g18 (ci 0))) <|
 kD p20 (oG g11 true (oLd true 8 g19)) <|
 kCall p21 (cG g11 true (cF 34 (aC g17 (aC g20 aN)))) <|
 kChkG g11 true g16 (oLd false 1 g15) <|
 kCall p22 (cG g11 true (cF 33 (aC g12 (aC g16 (aC g21 aN))))) <|
 kD p23 (oPick g11 g22 (kV (.bool false))) <|
 kD p4 (oMov g23) <|
 kRet,
 (r1 g4)⟩
/-- wimple/wimplelaw24.rr -/
noncomputable def k16 : FnK := ⟨kD p8 (oAlloc [(.str []), (vi 0), (vi 0), (vi 0), (.str [])]) <|
 kD p9 (oMov g0) <|
 kD p10 (oMov g1) <|
 kD p11 (oMov g2) <|
 kD p12 (oMov g3) <|
 kD p13 (oBuild [(.str []), (vi 0), (vi 0), (vi 0), (.str [])] (bC 0 1 g9 (bC 1 1 g10 (bC 2 1 (ci 1) (bC 3 1 g11 (bC 4 1 g12 bN)))))) <|
 kD0 (oSt 5 g8 g13) <|
 kRet,
 (rS [.cell s8 true 5])⟩
/-- (*wimple/iter.Resolver).Found -/
noncomputable def k17 : FnK := ⟨kD p2 (oMov (kV (.ref .nilsl))) <|
 kSeq (kD p7 (oMov g0) <|
 kD p8 (oPs (.eqx false .p (.t s7) (.k (.ref .nilptr)))) <|
 kCond g8 (kD p2 (oMov (kV (.ref .nilsl))) <|
 kRet) <|
 kEnd) <|
 kD p3 (oMov (kV (.ref .nilsl))) <|
 kSeq (kD p9 (oMov g0) <|
 kD p10 (oNil g9) <|
 kD p11 (oFld 20 g10) <|
 kD p12 (oLd false 1 g11) <|
 kD p13 (oLenS g12) <|
 kD p14 (oMov (ci 0)) <|
 kBlock 0 <|
 kLoop <|
 kD p15 (o_lss g14 g13) <|
 kSeq (kCond g15 (kEnd) <|
 kExit 0) <|
 kSeq (kBlock 1 <|
 kD p16 (oIdx 3 g12 g14) <|
 kD p17 (oLd true 3 g16) <|
 kD p5 (oAlloc [(vi 0), (vi 0), (.ref .nilsl)]) <|
 kD0 (oSt 3 g5 g17) <|
 kD p18 (oFld 2 g5) <|
 kD p19 (oLd false 1 g18) <|
 kCall p20 (cF 37 (aC g19 aN)) <|
 kD p21 (oFld 2 g5) <|
 kD0 (oSt 1 g21 g20) <|
 kSeq (kD p22 (oFld 2 g5) <|
 kD p23 (oLd false 1 g22) <|
 kD p24 (oLenS g23) <|
 kD p25 (oMov (ci 0)) <|
 kBlock 2 <|
 kLoop <|
 kD p26 (o_lss g25 g24) <|
 kSeq (kCond g26 (kEnd) <|
 kExit 2) <|
 kSeq (kBlock 3 <|
 kD p27 (oMov g25) <|
 kD p6 (oMov g27) <|
 kD p28 (oFld 2 g5) <|
 kD p29 (oLd false 1 g28) <|
 kD p30 (oMov g6) <|
 kD p31 (oFld 2 g5) <|
 kD p32 (oLd false 1 g31) <|
 kD p33 (oMov g6) <|
 kD p34 (oIdx 4 g32 g33) <|
 kD p35 (oFld 3 g34) <|
 kD p36 (oLd false 1 g35) <|
 kCall p37 (cF 38 (aC g36 aN)) <|
 kChk g29 (oLd false 1 g28) <|
 kD p38 (oIdx 4 g29 g30) <|
 kD p39 (oFld 3 g38) <|
 kD0 (oSt 1 g39 g37) <|
 kEnd) <|
 kD p40 (o_add g25 (ci 1)) <|
 kD p25 (oMov g40) <|
 kEnd) <|
 kD p41 (oMov g3) <|
 kD p42 (oLd true 3 g5) <|
 kD p43 (oAs (.bsl false true 0 3 1 [(vi 0), (vi 0), (.ref .nilsl)] [(0, (.t s42))])) <|
 kD p44 (oApp 0 3 g41 g43 (oEs (.app false true 0 3 (.t s41) (.t s43)))) <|
 kD p3 (oMov g44) <|
 kEnd) <|
 kD p45 (o_add g14 (ci 1)) <|
 kD p14 (oMov g45) <|
 kEnd) <|
 kD p46 (oMov g3) <|
 kD p2 (oMov g46) <|
 kRet,
 (r1 g2)⟩
/-- wimple/wimplelaw0.SameSets -/
noncomputable def k18 : FnK := ⟨kD p4 (oMov (kV (.bool false))) <|
 kSeq (kD p6 (oMov g0) <|
 kD p7 (oLenS g6) <|
 kD p8 (oMov g1) <|
 kD p9 (oLenS g8) <|
 kD p10 (o_neq g7 g9) <|
 kCond g10 (kD p4 (oMov (kV (.bool false))) <|
 kRet) <|
 kEnd) <|
 kSeq (kD p5 (oMov (ci 0)) <|
 kBlock 0 <|
 kLoop <|
 kSeq (kD p11 (oMov g5) <|
 kD p12 (oMov g0) <|
 kD p13 (oLenS g12) <|
 kD p14 (o_lss g11 g13) <|
 kCond g14 (kEnd) <|
 kExit 0) <|
 kSeq (kBlock 1 <|
 kD p17 (oMov g0) <|
 kD p18 (oMov g5) <|
 kD p19 (oIdx 4 g17 g18) <|
 kD p20 (oLd true 4 g19) <|
 kD p21 (oMov g1) <|
 kD p22 (oMov g5) <|
 kD p23 (oIdx 4 g21 g22) <|
 kD p24 (oLd true 4 g23) <|
 kCall p25 (cF 28 (aC g20 (aC g24 aN))) <|
 kD p26 (oNot g25) <|
 kCond g26 (kD p4 (oMov (kV (.bool false))) <|
 kRet) <|
 kEnd) <|
 kD p15 (oMov g5) <|
 kD p16 (o_add g15 (ci 1)) <|
 kD p5 (oMov g16) <|
 kEnd) <|
 kD p4 (oMov (kV (.bool true))) <|
 kRet,
 (r1 g4)⟩
/-- (*wimple/iter.Resolver).Tick -/
noncomputable def k19 : FnK := ⟨kD p4 (oMov (ci 0)) <|
 kSeq (kBlock 0 <|
 kD p10 (oMov g0) <|
 kD p11 (oPs (.eqx false .p (.t s10) (.k (.ref .nilptr)))) <|
 kD p9 (oMov g11) <|
 kCond g9 (kD p4 (oMov (ci 1)) <|
 kRet) <|
 kD p13 (oMov g1) <|
 kD p14 (o_lss g13 (ci 0)) <|
 kD p15 (oMov g14) <|
 kD p16 (oG g15 false (oMov g1)) <|
 kD p17 (oG g15 false (o_gtr g16 (ci 1000000))) <|
 kD p18 (oPick g15 (kV (.bool true)) g17) <|
 kD p19 (oMov g18) <|
 kD p20 (oG g19 false (oMov g1)) <|
 kD p21 (oG g19 false (oMov g0)) <|
 kD p22 (oG g19 false (oNil g21)) <|
 kD p23 (oG g19 false (oFld 11 g22)) <|
 kD p24 (oG g19 false (oLd false 1 g23)) <|
 kD p25 (oG g19 false (o_sub (ci 2147483647) g24)) <|
 kD p26 (oG g19 false (o_gtr g20 g25)) <|
 kD p27 (oPick g19 (kV (.bool true)) g26) <|
 kD p12 (oMov g27) <|
 kCond g12 (kD p4 (oMov (ci 2400)) <|
 kRet) <|
 kEnd) <|
 kD p28 (oMov g0) <|
 kD p29 (oNil g28) <|
 kD p30 (oFld 11 g29) <|
 kD p31 (oLd false 1 g30) <|
 kD p32 (oMov g1) <|
 kD p33 (o_add g31 g32) <|
 kD p5 (oMov g33) <|
 kSeq (kBlock 1 <|
 kLoop <|
 kSeq (kD p34 (oMov g0) <|
 kD p35 (oNil g34) <|
 kD p36 (oFld 11 g35) <|
 kD p37 (oLd false 1 g36) <|
 kD p38 (oMov g5) <|
 kD p39 (o_lss g37 g38) <|
 kCond g39 (kEnd) <|
 kExit 1) <|
 kBlock 2 <|
 kD p40 (oMov g5) <|
 kD p6 (oMov g40) <|
 kSeq (kD p41 (oMov g0) <|
 kD p42 (oNil g41) <|
 kD p43 (oFld 16 g42) <|
 kD p44 (oLd false 1 g43) <|
 kCall p45 (cF 39 (aC g44 aN)) <|
 kD p46 (oLenS g45) <|
 kD p47 (oMov (ci 0)) <|
 kBlock 3 <|
 kLoop <|
 kD p48 (o_lss g47 g46) <|
 kSeq (kCond g48 (kEnd) <|
 kExit 3) <|
 kSeq (kBlock 4 <|
 kD p49 (oIdx 8 g45 g47) <|
 kD p50 (oLd true 8 g49) <|
 kD p8 (oAlloc [(vi 0), (vi 0), (vi 0), (.str []), (.str []), (.str []), (vi 0), (vi 0)]) <|
 kD0 (oSt 8 g8 g50) <|
 kD p51 (oMov g6) <|
 kD p52 (oFld 7 g8) <|
 kD p53 (oLd false 1 g52) <|
 kD p54 (oMov g0) <|
 kD p55 (oNil g54) <|
 kD p56 (oFld 11 g55) <|
 kD p57 (oLd false 1 g56) <|
 kD p58 (o_add g57 (ci 1)) <|
 kD p59 (oPs (.maxI (.t s53) [(.t s58)])) <|
 kD p60 (oPs (.minI (.t s51) [(.t s59)])) <|
 kD p6 (oMov g60) <|
 kEnd) <|
 kD p61 (o_add g47 (ci 1)) <|
 kD p47 (oMov g61) <|
 kEnd) <|
 kD p62 (oMov g0) <|
 kD p63 (oMov g6) <|
 kD p64 (oNil g62) <|
 kD p65 (oFld 11 g64) <|
 kD0 (oSt 1 g65 g63) <|
 kD p66 (oMov g0) <|
 kCall p67 (cF 40 (aC g66 aN)) <|
 kEnd) <|
 kD p4 (oMov (ci 0)) <|
 kRet,
 (r1 g4)⟩
/-- (*wimple/iter.Resolver).Sent -/
noncomputable def k20 : FnK := ⟨kD p2 (oMov (kV (.ref .nilsl))) <|
 kSeq (kD p3 (oMov g0) <|
 kD p4 (oPs (.eqx false .p (.t s3) (.k (.ref .nilptr)))) <|
 kCond g4 (kD p2 (oMov (kV (.ref .nilsl))) <|
 kRet) <|
 kEnd) <|
 kD p5 (oMov g0) <|
 kD p6 (oNil g5) <|
 kD p7 (oFld 19 g6) <|
 kD p8 (oLd false 1 g7) <|
 kCall p9 (cF 41 (aC g8 aN)) <|
 kD p2 (oMov g9) <|
 kRet,
 (r1 g2)⟩
/-- (*wimple/iter.Resolver).Ask -/
noncomputable def k21 : FnK := ⟨kD p6 (oMov (ci 0)) <|
 kD p7 (oMov (ci 0)) <|
 kSeq (kD p10 (oMov g0) <|
 kD p11 (oPs (.eqx false .p (.t s10) (.k (.ref .nilptr)))) <|
 kCond g11 (kD p6 (oMov (ci 0)) <|
 kD p7 (oMov (ci 1)) <|
 kRet) <|
 kEnd) <|
 kD p13 (oMov g0) <|
 kD p14 (oNil g13) <|
 kD p15 (oFld 0 g14) <|
 kD p16 (oLd true 11 g15) <|
 kD p17 (oMov g0) <|
 kD p18 (oNil g17) <|
 kD p19 (oFld 18 g18) <|
 kD p20 (oLd false 1 g19) <|
 kD p21 (o_add g20 (ci 1)) <|
 kD p22 (oMov g1) <|
 kD p23 (oMov g2) <|
 kCall p24 (cF 42 (aC g16 (aC g21 (aC g22 (aC g23 aN))))) <|
 kD p12 (oMov g24) <|
 kD p25 (oExt g12 0) <|
 kD p26 (oExt g12 1) <|
 kD p8 (oMov g25) <|
 kD p9 (oMov g26) <|
 kSeq (kBlock 0 <|
 kD p28 (oMov g9) <|
 kD p29 (o_neq g28 (ci 0)) <|
 kD p27 (oMov g29) <|
 kCond g27 (kD p6 (oMov (ci 0)) <|
 kD p7 (oMov (ci 2400)) <|
 kRet) <|
 kD p31 (oMov g0) <|
 kD p32 (oNil g31) <|
 kD p33 (oFld 17 g32) <|
 kD p34 (oLd false 1 g33) <|
 kD p35 (oRs (.lenM (.t s34))) <|
 kD p36 (oMov g0) <|
 kD p37 (oNil g36) <|
 kD p38 (oFld 0 g37) <|
 kD p39 (oFld 2 g38) <|
 kD p40 (oLd false 1 g39) <|
 kD p41 (o_geq g35 g40) <|
 kD p30 (oMov g41) <|
 kCond g30 (kD p6 (oMov (ci 0)) <|
 kD p7 (oMov (ci 2401)) <|
 kRet) <|
 kEnd) <|
 kD p42 (oMov g0) <|
 kD p43 (oNil g42) <|
 kD p44 (oFld 18 g43) <|
 kD p45 (oLd false 1 g44) <|
 kD p46 (o_add g45 (ci 1)) <|
 kD p47 (oNil g42) <|
 kD p48 (oFld 18 g47) <|
 kD0 (oSt 1 g48 g46) <|
 kD p49 (oMov g0) <|
 kD p50 (oNil g49) <|
 kD p51 (oFld 17 g50) <|
 kD p52 (oLd false 1 g51) <|
 kD p53 (oMov g8) <|
 kD p54 (oNil g53) <|
 kD p55 (oFld 0 g54) <|
 kD p56 (oLd false 1 g55) <|
 kD p57 (oMov g8) <|
 kD0 (oEs (.mup ⟨false, [(.int .i64)]⟩ (.t s52) (.t s56) (.t s57))) <|
 kD p58 (oMov g0) <|
 kD p59 (oMov g8) <|
 kCall p60 (cF 43 (aC g58 (aC g59 aN))) <|
 kD p61 (oMov g8) <|
 kD p62 (oNil g61) <|
 kD p63 (oFld 0 g62) <|
 kD p64 (oLd false 1 g63) <|
 kD p6 (oMov g64) <|
 kD p7 (oMov (ci 0)) <|
 kRet,
 (r2 g6 g7)⟩
/-- wimple/wimplelaw0.Num -/
noncomputable def k22 : FnK := ⟨kD p2 (oMov (ci 0)) <|
 kD p3 (oMov g0) <|
 kD p2 (oMov g3) <|
 kRet,
 (r1 g2)⟩
/-- (*wimple/iter.Resolver).Asked -/
noncomputable def k23 : FnK := ⟨kD p2 (oMov (kV (.ref .nilsl))) <|
 kSeq (kD p3 (oMov g0) <|
 kD p4 (oPs (.eqx false .p (.t s3) (.k (.ref .nilptr)))) <|
 kCond g4 (kD p2 (oMov (kV (.ref .nilsl))) <|
 kRet) <|
 kEnd) <|
 kD p5 (oMov g0) <|
 kD p6 (oNil g5) <|
 kD p7 (oFld 16 g6) <|
 kD p8 (oLd false 1 g7) <|
 kCall p9 (cF 39 (aC g8 aN)) <|
 kD p2 (oMov g9) <|
 kRet,
 (r1 g2)⟩
/-- wimple/wimplelaw24.Plain -/
noncomputable def k24 : FnK := ⟨kD p0 (oAlloc [(.ref .nilsl), (vi 0), (vi 0), (vi 0), (vi 0), (vi 0), (vi 0), (vi 0), (vi 0), (vi 0), (.ref .nilsl)]) <|
 kD p1 (oBuild [(.str []), (vi 0)] (bC 0 1 (kV (.str [1, 114, 0])) (bC 1 1 (ci 1) bN))) <|
 kD p2 (oAs (.bsl false true 0 2 1 [(.str []), (vi 0)] [(0, (.t s1))])) <|
 kD p3 (oBsl1 0 1 20 (lC (ci 1) (lC (ci 2) (lC (ci 3) (lC (ci 4) (lC (ci 5) (lC (ci 6) (lC (ci 7) (lC (ci 8) (lC (ci 9) (lC (ci 10) (lC (ci 11) (lC (ci 12) (lC (ci 13) (lC (ci 14) (lC (ci 15) (lC (ci 16) (lC (ci 17) (lC (ci 18) (lC (ci 19) (lC (ci 20) lN))))))))))))))))))))) <|
 kD p4 (oBuild [(.ref .nilsl), (vi 0), (vi 0), (vi 0), (vi 0), (vi 0), (vi 0), (vi 0), (vi 0), (vi 0), (.ref .nilsl)] (bC 0 1 g2 (bC 1 1 (ci 20) (bC 2 1 (ci 4) (bC 3 1 (ci 20) (bC 4 1 (ci 2) (bC 5 1 (ci 3) (bC 6 1 (ci 5) (bC 7 1 (ci 2) (bC 8 1 (ci 10) (bC 9 1 (ci 4) (bC 10 1 g3 bN)))))))))))) <|
 kD0 (oSt 11 g0 g4) <|
 kRet,
 (rS [.cell s0 true 11])⟩
/-- wimple/iter.New -/
noncomputable def k25 : FnK := ⟨kD p1 (oBox g0) <|
 kD p2 (oMov (kV (.ref .nilptr))) <|
 kD p3 (oMov (ci 0)) <|
 kSeq (kD p5 (oLd true 11 g1) <|
 kCall p6 (cF 44 (aC g5 aN)) <|
 kD p7 (oNot g6) <|
 kCond g7 (kD p2 (oMov (kV (.ref .nilptr))) <|
 kD p3 (oMov (ci 2400)) <|
 kRet) <|
 kEnd) <|
 kD p8 (oFld 0 g1) <|
 kD p9 (oLd false 1 g8) <|
 kD p11 (oFld 10 g1) <|
 kD p12 (oLd false 1 g11) <|
 kCall p10 (cF 45 (aC g9 aN)) <|
 kChk g12 (oLd false 1 g11) <|
 kD p14 (oFld 0 g1) <|
 kCall p13 (cF 46 (aC g12 aN)) <|
 kD0 (oSt 1 g14 g10) <|
 kD p15 (oFld 10 g1) <|
 kD0 (oSt 1 g15 g13) <|
 kD p16 (oLd true 11 g1) <|
 kD p17 (oAs .mkm) <|
 kD p18 (oBuild [(.ref .nilsl), (vi 0), (vi 0), (vi 0), (vi 0), (vi 0), (vi 0), (vi 0), (vi 0), (vi 0), (.ref .nilsl), (vi 0), (.ref .nilptr), (.ref .nilptr), (.ref .nilptr), (.ref .nilptr), (.ref .nilptr), (.ref .mapn), (vi 0), (.ref .nilsl), (.ref .nilsl)] (bC 0 11 g16 (bC 17 1 g17 bN))) <|
 kD p19 (oBox g18) <|
 kD p4 (oMov g19) <|
 kD p21 (oMov g4) <|
 kD p22 (oFld 1 g1) <|
 kD p23 (oLd false 1 g22) <|
 kCall p24 (cF 47 (aC g23 aN)) <|
 kD p20 (oMov g24) <|
 kD p25 (oExt g20 0) <|
 kD p26 (oExt g20 1) <|
 kD p27 (oNil g21) <|
 kD p28 (oFld 12 g27) <|
 kD0 (oSt 1 g28 g25) <|
 kD p30 (oMov g4) <|
 kD p31 (oFld 1 g1) <|
 kD p32 (oLd false 1 g31) <|
 kCall p33 (cF 48 (aC g32 aN)) <|
 kD p29 (oMov g33) <|
 kD p34 (oExt g29 0) <|
 kD p35 (oExt g29 1) <|
 kD p36 (oNil g30) <|
 kD p37 (oFld 13 g36) <|
 kD0 (oSt 1 g37 g34) <|
 kD p39 (oMov g4) <|
 kD p40 (oFld 0 g1) <|
 kD p41 (oLd false 1 g40) <|
 kCall p42 (cF 49 (aC g41 aN)) <|
 kD p38 (oMov g42) <|
 kD p43 (oExt g38 0) <|
 kD p44 (oExt g38 1) <|
 kD p45 (oNil g39) <|
 kD p46 (oFld 14 g45) <|
 kD0 (oSt 1 g46 g43) <|
 kD p48 (oMov g4) <|
 kD p49 (oFld 10 g1) <|
 kD p50 (oLd false 1 g49) <|
 kCall p51 (cF 50 (aC g50 aN)) <|
 kD p47 (oMov g51) <|
 kD p52 (oExt g47 0) <|
 kD p53 (oExt g47 1) <|
 kD p54 (oNil g48) <|
 kD p55 (oFld 15 g54) <|
 kD0 (oSt 1 g55 g52) <|
 kD p57 (oMov g4) <|
 kD p58 (oFld 2 g1) <|
 kD p59 (oLd false 1 g58) <|
 kCall p60 (cF 51 (aC g59 aN)) <|
 kD p56 (oMov g60) <|
 kD p61 (oExt g56 0) <|
 kD p62 (oExt g56 1) <|
 kD p63 (oNil g57) <|
 kD p64 (oFld 16 g63) <|
 kD0 (oSt 1 g64 g61) <|
 kD p65 (oMov g4) <|
 kD p2 (oMov g65) <|
 kD p3 (oMov (ci 0)) <|
 kRet,
 (r2 g2 g3)⟩
/-- wimple/wimplelaw24.asks -/
noncomputable def k26 : FnK := ⟨kD p2 (oAlloc [(vi 0), (vi 0), (vi 0), (.str []), (.str []), (.str []), (vi 0), (vi 0)]) <|
 kD p4 (oMov g0) <|
 kCall p5 (cF 23 (aC g4 aN)) <|
 kD p3 (oMov g5) <|
 kSeq (kD p6 (oMov g3) <|
 kD p7 (oLenS g6) <|
 kD p8 (o_eql g7 (ci 0)) <|
 kCond g8 (kD p9 (oBuild [(vi 0), (vi 0), (vi 0), (.str []), (.str []), (.str []), (vi 0), (vi 0)] bN) <|
 kD0 (oSt 8 g2 g9) <|
 kRet) <|
 kEnd) <|
 kD p10 (oMov g3) <|
 kD p11 (oIdx 8 g10 (ci 0)) <|
 kD p12 (oLd true 8 g11) <|
 kD0 (oSt 8 g2 g12) <|
 kRet,
 (rS [.cell s2 true 8])⟩
/-- (*wimple/iter.Resolver).Jobs -/
noncomputable def k27 : FnK := ⟨kD p2 (oMov (ci 0)) <|
 kSeq (kD p3 (oMov g0) <|
 kD p4 (oPs (.eqx false .p (.t s3) (.k (.ref .nilptr)))) <|
 kCond g4 (kD p2 (oMov (ci 0)) <|
 kRet) <|
 kEnd) <|
 kD p5 (oMov g0) <|
 kD p6 (oNil g5) <|
 kD p7 (oFld 17 g6) <|
 kD p8 (oLd false 1 g7) <|
 kD p9 (oRs (.lenM (.t s8))) <|
 kD p2 (oMov g9) <|
 kRet,
 (r1 g2)⟩
/-- wimple/wimplelaw0.SameSet -/
noncomputable def k28 : FnK := ⟨kD p2 (oBox g0) <|
 kD p3 (oBox g1) <|
 kD p4 (oMov (kV (.bool false))) <|
 kD p5 (oFld 0 g2) <|
 kD p6 (oLd false 1 g5) <|
 kD p7 (oFld 0 g3) <|
 kD p8 (oLd false 1 g7) <|
 kD p9 (o_eql g6 g8) <|
 kD p10 (oMov g9) <|
 kD p11 (oG g10 true (oFld 1 g2)) <|
 kD p12 (oG g10 true (oLd false 1 g11)) <|
 kD p13 (oG g10 true (oFld 1 g3)) <|
 kD p14 (oG g10 true (oLd false 1 g13)) <|
 kD p15 (oG g10 true (o_eql g12 g14)) <|
 kD p16 (oPick g10 g15 (kV (.bool false))) <|
 kD p17 (oMov g16) <|
 kD p18 (oG g17 true (oFld 2 g2)) <|
 kD p19 (oG g17 true (oLd false 1 g18)) <|
 kD p20 (oG g17 true (oFld 2 g3)) <|
 kD p21 (oG g17 true (oLd false 1 g20)) <|
 kD p22 (oG g17 true (o_eql g19 g21)) <|
 kD p23 (oPick g17 g22 (kV (.bool false))) <|
 kD p24 (oMov g23) <|
 kD p25 (oG g24 true (oFld 3 g2)) <|
 kD p26 (oG g24 true (oLd false 1 g25)) <|
 kD p27 (oG g24 true (oFld 3 g3)) <|
 kD p28 (oG g24 true (oLd false 1 g27)) <|
 kCall p29 (cG g24 true (cF 52 (aC g26 (aC g28 aN)))) <|
 kD p30 (oPick g24 g29 (kV (.bool false))) <|
 kD p4 (oMov g30) <|
 kRet,
 (r1 g4)⟩
/-- (*wimple/iter.Resolver).Now -/
noncomputable def k29 : FnK := ⟨kD p2 (oMov (ci 0)) <|
 kSeq (kD p3 (oMov g0) <|
 kD p4 (oPs (.eqx false .p (.t s3) (.k (.ref .nilptr)))) <|
 kCond g4 (kD p2 (oMov (ci 0)) <|
 kRet) <|
 kEnd) <|
 kD p5 (oMov g0) <|
 kD p6 (oNil g5) <|
 kD p7 (oFld 11 g6) <|
 kD p8 (oLd false 1 g7) <|
 kD p2 (oMov g8) <|
 kRet,
 (r1 g2)⟩
/-- (*wimple/iter.Resolver).Reply -/
noncomputable def k33 : FnK := ⟨kD p6 (oMov (kV (.bool false))) <|
 kSeq (kD p11 (oMov g0) <|
 kD p12 (oPs (.eqx false .p (.t s11) (.k (.ref .nilptr)))) <|
 kCond g12 (kD p6 (oMov (kV (.bool false))) <|
 kRet) <|
 kEnd) <|
 kD p14 (oMov g2) <|
 kCall p15 (cF 53 (aC g14 aN)) <|
 kD p13 (oMov g15) <|
 kD p16 (oExt g13 0) <|
 kD p17 (oExt g13 1) <|
 kD p7 (oAlloc [(vi 0), (.bool false), (vi 0), (.bool false), (.bool false), (.bool false), (.bool false), (vi 0), (vi 0), (.ref .nilsl), (.ref .nilsl), (.ref .nilsl), (.ref .nilsl)]) <|
 kD0 (oSt 13 g7 g16) <|
 kD p8 (oMov g17) <|
 kSeq (kD p18 (oMov g8) <|
 kD p19 (o_neq g18 (ci 0)) <|
 kCond g19 (kD p6 (oMov (kV (.bool false))) <|
 kRet) <|
 kEnd) <|
 kD p21 (oMov g0) <|
 kD p22 (oNil g21) <|
 kD p23 (oFld 16 g22) <|
 kD p24 (oLd false 1 g23) <|
 kD p25 (oMov g1) <|
 kD p26 (oFld 0 g7) <|
 kD p27 (oFld 0 g26) <|
 kD p28 (oLd false 1 g27) <|
 kD p29 (oFld 9 g7) <|
 kD p30 (oLd false 1 g29) <|
 kD p31 (oIdx 3 g30 (ci 0)) <|
 kD p32 (oLd true 3 g31) <|
 kD p9 (oAlloc [(vi 0), (vi 0), (vi 0), (.str []), (.str []), (.str []), (vi 0), (vi 0)]) <|
 kCall p33 (cF 54 (aC g24 (aC g25 (aC g28 (aC g32 aN))))) <|
 kD p20 (oMov g33) <|
 kD p34 (oExt g20 0) <|
 kD p35 (oExt g20 1) <|
 kD0 (oSt 8 g9 g34) <|
 kD p8 (oMov g35) <|
 kSeq (kD p36 (oMov g8) <|
 kD p37 (o_neq g36 (ci 0)) <|
 kCond g37 (kD p6 (oMov (kV (.bool false))) <|
 kRet) <|
 kEnd) <|
 kD p39 (oLd true 13 g7) <|
 kD p40 (oFld 3 g9) <|
 kD p41 (oLd false 1 g40) <|
 kCall p42 (cF 55 (aC g39 (aC g41 aN))) <|
 kD p38 (oMov g42) <|
 kD p43 (oExt g38 0) <|
 kD p44 (oExt g38 1) <|
 kD0 (oSt 13 g7 g43) <|
 kSeq (kD p45 (oMov g0) <|
 kD p46 (oNil g45) <|
 kD p47 (oFld 17 g46) <|
 kD p48 (oLd false 1 g47) <|
 kD p49 (oFld 0 g9) <|
 kD p50 (oLd false 1 g49) <|
 kD p51 (oRs (.lkp ⟨false, [(.int .i64)]⟩ false (.ref .nilptr) (.t s48) (.t s50))) <|
 kD p10 (oMov g51) <|
 kD p52 (oMov g0) <|
 kD p53 (oMov g10) <|
 kD p54 (oFld 5 g9) <|
 kD p55 (oLd true 2 g54) <|
 kCall p56 (cF 56 (aC g52 (aC g53 (aC g7 (aC g55 aN))))) <|
 kCond g56 (kD p57 (oMov g0) <|
 kD p58 (oMov g10) <|
 kCall p59 (cF 43 (aC g57 (aC g58 aN))) <|
 kEnd) <|
 kEnd) <|
 kD p6 (oMov (kV (.bool true))) <|
 kRet,
 (r1 g6)⟩
/-- wimple/wimplelaw24.Fitted -/
noncomputable def k34 : FnK := ⟨kD p2 (oBox g0) <|
 kD p3 (oBox g1) <|
 kD p4 (oMov (kV (.str []))) <|
 kD p8 (oLd true 13 g2) <|
 kD p5 (oAlloc [(vi 0), (.bool false), (vi 0), (.bool false), (.bool false), (.bool false), (.bool false), (vi 0), (vi 0), (.ref .nilsl), (.ref .nilsl), (.ref .nilsl), (.ref .nilsl)]) <|
 kD0 (oSt 13 g5 g8) <|
 kD p9 (oFld 1 g3) <|
 kD p10 (oLd false 1 g9) <|
 kD p11 (oFld 0 g5) <|
 kD p12 (oFld 0 g11) <|
 kD0 (oSt 1 g12 g10) <|
 kD p13 (oFld 0 g5) <|
 kD p14 (oFld 1 g13) <|
 kD0 (oSt 1 g14 (kV (.bool true))) <|
 kD p15 (oFld 0 g5) <|
 kD p16 (oFld 2 g15) <|
 kD0 (oSt 1 g16 (ci 0)) <|
 kD p17 (oFld 5 g3) <|
 kD p18 (oFld 0 g17) <|
 kD p19 (oLd false 1 g18) <|
 kD p20 (oFld 5 g3) <|
 kD p21 (oFld 1 g20) <|
 kD p22 (oLd false 1 g21) <|
 kD p23 (oBuild [(.str []), (vi 0), (vi 0)] (bC 0 1 g19 (bC 1 1 g22 (bC 2 1 (ci 1) bN)))) <|
 kD p24 (oAs (.bsl false true 0 3 1 [(.str []), (vi 0), (vi 0)] [(0, (.t s23))])) <|
 kD p25 (oFld 9 g5) <|
 kD0 (oSt 1 g25 g24) <|
 kD p27 (oLd true 13 g5) <|
 kCall p28 (cF 57 (aC g27 aN)) <|
 kD p26 (oMov g28) <|
 kD p29 (oExt g26 0) <|
 kD p30 (oExt g26 1) <|
 kD p6 (oMov g29) <|
 kD p7 (oMov g30) <|
 kD p31 (oMov g6) <|
 kD p4 (oMov g31) <|
 kRet,
 (r1 g4)⟩
/-- wimple/wimpleref4.GetMsg -/
noncomputable def k36 : FnK := ⟨kD p2 (oAlloc [(vi 0), (.bool false), (vi 0), (.bool false), (.bool false), (.bool false), (.bool false), (vi 0), (vi 0), (.ref .nilsl), (.ref .nilsl), (.ref .nilsl), (.ref .nilsl)]) <|
 kD p3 (oMov (ci 0)) <|
 kSeq (kD p17 (oMov g0) <|
 kD p18 (oLenT g17) <|
 kD p19 (o_gtr g18 (ci 4096)) <|
 kCond g19 (kD p20 (oBuild [(vi 0), (.bool false), (vi 0), (.bool false), (.bool false), (.bool false), (.bool false), (vi 0), (vi 0), (.ref .nilsl), (.ref .nilsl), (.ref .nilsl), (.ref .nilsl)] bN) <|
 kD0 (oSt 13 g2 g20) <|
 kD p3 (oMov (ci 701)) <|
 kRet) <|
 kEnd) <|
 kD p22 (oMov g0) <|
 kCall p23 (cF 59 (aC g22 aN)) <|
 kD p21 (oMov g23) <|
 kD p24 (oExt g21 0) <|
 kD p25 (oExt g21 1) <|
 kD p26 (oExt g21 2) <|
 kD p4 (oAlloc [(vi 0), (.bool false), (vi 0), (.bool false), (.bool false), (.bool false), (.bool false), (vi 0), (vi 0)]) <|
 kD p5 (oAlloc [(vi 0), (vi 0), (vi 0), (vi 0)]) <|
 kD0 (oSt 9 g4 g24) <|
 kD0 (oSt 4 g5 g25) <|
 kD p6 (oMov g26) <|
 kSeq (kD p27 (oMov g6) <|
 kD p28 (o_neq g27 (ci 0)) <|
 kCond g28 (kD p29 (oBuild [(vi 0), (.bool false), (vi 0), (.bool false), (.bool false), (.bool false), (.bool false), (vi 0), (vi 0), (.ref .nilsl), (.ref .nilsl), (.ref .nilsl), (.ref .nilsl)] bN) <|
 kD0 (oSt 13 g2 g29) <|
 kD p3 (oMov (ci 700)) <|
 kRet) <|
 kEnd) <|
 kD p30 (oLd true 9 g4) <|
 kD p31 (oBuild [(vi 0), (.bool false), (vi 0), (.bool false), (.bool false), (.bool false), (.bool false), (vi 0), (vi 0), (.ref .nilsl), (.ref .nilsl), (.ref .nilsl), (.ref .nilsl)] (bC 0 9 g30 bN)) <|
 kD p7 (oAlloc [(vi 0), (.bool false), (vi 0), (.bool false), (.bool false), (.bool false), (.bool false), (vi 0), (vi 0), (.ref .nilsl), (.ref .nilsl), (.ref .nilsl), (.ref .nilsl)]) <|
 kD0 (oSt 13 g7 g31) <|
 kD p8 (oMov (ci 12)) <|
 kSeq (kD p9 (oMov (ci 0)) <|
 kBlock 0 <|
 kLoop <|
 kSeq (kD p32 (oMov g9) <|
 kD p33 (o_lss g32 (ci 4)) <|
 kCond g33 (kEnd) <|
 kExit 0) <|
 kSeq (kBlock 1 <|
 kSeq (kD p36 (oMov g9) <|
 kD p37 (oIdxa 4 1 g5 g36) <|
 kD p38 (oLd false 1 g37) <|
 kD p39 (o_gtr g38 (ci 64)) <|
 kCond g39 (kD p40 (oBuild [(vi 0), (.bool false), (vi 0), (.bool false), (.bool false), (.bool false), (.bool false), (vi 0), (vi 0), (.ref .nilsl), (.ref .nilsl), (.ref .nilsl), (.ref .nilsl)] bN) <|
 kD0 (oSt 13 g2 g40) <|
 kD p3 (oMov (ci 700)) <|
 kRet) <|
 kEnd) <|
 kD p10 (oMov (ci 0)) <|
 kBlock 2 <|
 kLoop <|
 kSeq (kD p41 (oMov g10) <|
 kD p42 (oMov g9) <|
 kD p43 (oIdxa 4 1 g5 g42) <|
 kD p44 (oLd false 1 g43) <|
 kD p45 (o_lss g41 g44) <|
 kCond g45 (kEnd) <|
 kExit 2) <|
 kSeq (kBlock 3 <|
 kSeq (kD p48 (oMov g9) <|
 kD p49 (o_eql g48 (ci 0)) <|
 kCond g49 (kD p51 (oMov g0) <|
 kD p52 (oMov g8) <|
 kCall p53 (cF 60 (aC g51 (aC g52 aN))) <|
 kD p50 (oMov g53) <|
 kD p54 (oExt g50 0) <|
 kD p55 (oExt g50 1) <|
 kD p56 (oExt g50 2) <|
 kD p11 (oAlloc [(.str []), (vi 0), (vi 0)]) <|
 kD0 (oSt 3 g11 g54) <|
 kD p12 (oMov g55) <|
 kD p13 (oMov g56) <|
 kSeq (kD p57 (oMov g13) <|
 kD p58 (oNot g57) <|
 kCond g58 (kD p59 (oBuild [(vi 0), (.bool false), (vi 0), (.bool false), (.bool false), (.bool false), (.bool false), (vi 0), (vi 0), (.ref .nilsl), (.ref .nilsl), (.ref .nilsl), (.ref .nilsl)] bN) <|
 kD0 (oSt 13 g2 g59) <|
 kD p3 (oMov (ci 700)) <|
 kRet) <|
 kEnd) <|
 kD p60 (oFld 9 g7) <|
 kD p61 (oLd false 1 g60) <|
 kD p62 (oLd true 3 g11) <|
 kD p63 (oAs (.bsl false true 0 3 1 [(.str []), (vi 0), (vi 0)] [(0, (.t s62))])) <|
 kD p64 (oApp 0 3 g61 g63 (oEs (.app false true 0 3 (.t s61) (.t s63)))) <|
 kD p65 (oFld 9 g7) <|
 kD0 (oSt 1 g65 g64) <|
 kD p66 (oMov g12) <|
 kD p8 (oMov g66) <|
 kExit 3) <|
 kEnd) <|
 kD p68 (oMov g0) <|
 kD p69 (oMov g8) <|
 kCall p70 (cF 61 (aC g68 (aC g69 aN))) <|
 kD p67 (oMov g70) <|
 kD p71 (oExt g67 0) <|
 kD p72 (oExt g67 1) <|
 kD p73 (oExt g67 2) <|
 kD p14 (oAlloc [(.str []), (vi 0), (vi 0), (vi 0), (.str [])]) <|
 kD0 (oSt 5 g14 g71) <|
 kD p15 (oMov g72) <|
 kD p16 (oMov g73) <|
 kSeq (kD p74 (oMov g16) <|
 kD p75 (oNot g74) <|
 kCond g75 (kD p76 (oBuild [(vi 0), (.bool false), (vi 0), (.bool false), (.bool false), (.bool false), (.bool false), (vi 0), (vi 0), (.ref .nilsl), (.ref .nilsl), (.ref .nilsl), (.ref .nilsl)] bN) <|
 kD0 (oSt 13 g2 g76) <|
 kD p3 (oMov (ci 700)) <|
 kRet) <|
 kEnd) <|
 kD p77 (oMov g15) <|
 kD p8 (oMov g77) <|
 kD p78 (oMov g9) <|
 kBlock 4 <|
 kD p86 (o_eql g78 (ci 1)) <|
 kD p85 (oMov g86) <|
 kCond g85 (kD p87 (oFld 10 g7) <|
 kD p88 (oLd false 1 g87) <|
 kD p89 (oLd true 5 g14) <|
 kD p90 (oAs (.bsl false true 0 5 1 [(.str []), (vi 0), (vi 0), (vi 0), (.str [])] [(0, (.t s89))])) <|
 kD p91 (oApp 0 5 g88 g90 (oEs (.app false true 0 5 (.t s88) (.t s90)))) <|
 kD p92 (oFld 10 g7) <|
 kD0 (oSt 1 g92 g91) <|
 kEnd) <|
 kD p94 (o_eql g78 (ci 2)) <|
 kD p93 (oMov g94) <|
 kCond g93 (kD p95 (oFld 11 g7) <|
 kD p96 (oLd false 1 g95) <|
 kD p97 (oLd true 5 g14) <|
 kD p98 (oAs (.bsl false true 0 5 1 [(.str []), (vi 0), (vi 0), (vi 0), (.str [])] [(0, (.t s97))])) <|
 kD p99 (oApp 0 5 g96 g98 (oEs (.app false true 0 5 (.t s96) (.t s98)))) <|
 kD p100 (oFld 11 g7) <|
 kD0 (oSt 1 g100 g99) <|
 kEnd) <|
 kD p79 (oFld 12 g7) <|
 kD p80 (oLd false 1 g79) <|
 kD p81 (oLd true 5 g14) <|
 kD p82 (oAs (.bsl false true 0 5 1 [(.str []), (vi 0), (vi 0), (vi 0), (.str [])] [(0, (.t s81))])) <|
 kD p83 (oApp 0 5 g80 g82 (oEs (.app false true 0 5 (.t s80) (.t s82)))) <|
 kD p84 (oFld 12 g7) <|
 kD0 (oSt 1 g84 g83) <|
 kEnd) <|
 kD p46 (oMov g10) <|
 kD p47 (o_add g46 (ci 1)) <|
 kD p10 (oMov g47) <|
 kEnd) <|
 kD p34 (oMov g9) <|
 kD p35 (o_add g34 (ci 1)) <|
 kD p9 (oMov g35) <|
 kEnd) <|
 kSeq (kD p101 (oMov g8) <|
 kD p102 (oMov g0) <|
 kD p103 (oLenT g102) <|
 kD p104 (o_neq g101 g103) <|
 kCond g104 (kD p105 (oBuild [(vi 0), (.bool false), (vi 0), (.bool false), (.bool false), (.bool false), (.bool false), (vi 0), (vi 0), (.ref .nilsl), (.ref .nilsl), (.ref .nilsl), (.ref .nilsl)] bN) <|
 kD0 (oSt 13 g2 g105) <|
 kD p3 (oMov (ci 700)) <|
 kRet) <|
 kEnd) <|
 kD p106 (oLd true 13 g7) <|
 kD0 (oSt 13 g2 g106) <|
 kD p3 (oMov (ci 0)) <|
 kRet,
 (rS [.cell s2 true 13, .tmp s3])⟩
/-- slices.Clone[[]wimple/api.Set,wimple/api.Set] -/
noncomputable def k37 : FnK := ⟨kD p2 (oMov (kV (.ref .nilsl))) <|
 kSeq (kD p3 (oMov g0) <|
 kD p4 (oPs (.eqx false .s (.t s3) (.k (.ref .nilsl)))) <|
 kCond g4 (kD p2 (oMov (kV (.ref .nilsl))) <|
 kRet) <|
 kEnd) <|
 kD p5 (oAs (.bsl true true 0 4 0 [(.str []), (vi 0), (vi 0), (.ref .nilsl)] [])) <|
 kD p6 (oMov g0) <|
 kD p7 (oEs (.app true true 0 4 (.t s5) (.t s6))) <|
 kD p2 (oMov g7) <|
 kRet,
 (r1 g2)⟩
/-- slices.Clone[[]string,string] -/
noncomputable def k38 : FnK := ⟨kD p2 (oMov (kV (.ref .nilsl))) <|
 kSeq (kD p3 (oMov g0) <|
 kD p4 (oPs (.eqx false .s (.t s3) (.k (.ref .nilsl)))) <|
 kCond g4 (kD p2 (oMov (kV (.ref .nilsl))) <|
 kRet) <|
 kEnd) <|
 kD p5 (oBsl1 0 1 0 lN) <|
 kD p6 (oMov g0) <|
 kD p7 (oApp 0 1 g5 g6 (oEs (.app false false 0 1 (.t s5) (.t s6)))) <|
 kD p2 (oMov g7) <|
 kRet,
 (r1 g2)⟩
/-- (*wimple/out.Table).All -/
noncomputable def k39 : FnK := ⟨kD p2 (oMov (kV (.ref .nilsl))) <|
 kSeq (kD p3 (oMov g0) <|
 kD p4 (oPs (.eqx false .p (.t s3) (.k (.ref .nilptr)))) <|
 kCond g4 (kD p2 (oMov (kV (.ref .nilsl))) <|
 kRet) <|
 kEnd) <|
 kD p5 (oMov g0) <|
 kD p6 (oNil g5) <|
 kD p7 (oFld 1 g6) <|
 kD p8 (oLd false 1 g7) <|
 kCall p9 (cF 62 (aC g8 aN)) <|
 kD p2 (oMov g9) <|
 kRet,
 (r1 g2)⟩
/-- (*wimple/iter.Resolver).due -/
noncomputable def k40 : FnK := ⟨kD p7 (oMov g0) <|
 kD p8 (oNil g7) <|
 kD p9 (oFld 16 g8) <|
 kD p10 (oLd false 1 g9) <|
 kD p11 (oMov g0) <|
 kD p12 (oNil g11) <|
 kD p13 (oFld 11 g12) <|
 kD p14 (oLd false 1 g13) <|
 kD p17 (oMov (ci 0)) <|
 kCall p15 (cF 63 (aC g10 (aC g14 aN))) <|
 kD p16 (oLenS g15) <|
 kBlock 0 <|
 kLoop <|
 kD p18 (o_lss g17 g16) <|
 kSeq (kCond g18 (kEnd) <|
 kExit 0) <|
 kSeq (kBlock 1 <|
 kD p19 (oIdx 8 g15 g17) <|
 kD p20 (oLd true 8 g19) <|
 kD p3 (oAlloc [(vi 0), (vi 0), (vi 0), (.str []), (.str []), (.str []), (vi 0), (vi 0)]) <|
 kD0 (oSt 8 g3 g20) <|
 kD p21 (oMov g0) <|
 kD p22 (oNil g21) <|
 kD p23 (oFld 17 g22) <|
 kD p24 (oLd false 1 g23) <|
 kD p25 (oFld 0 g3) <|
 kD p26 (oLd false 1 g25) <|
 kD p27 (oRs (.lkp ⟨false, [(.int .i64)]⟩ false (.ref .nilptr) (.t s24) (.t s26))) <|
 kD p4 (oMov g27) <|
 kD p29 (oMov g4) <|
 kCall p30 (cF 64 (aC g29 aN)) <|
 kD p28 (oMov g30) <|
 kD p31 (oExt g28 0) <|
 kD p32 (oExt g28 1) <|
 kD p5 (oAlloc [(.str []), (vi 0), (.str []), (.str []), (vi 0), (.bool false), (vi 0), (vi 0)]) <|
 kD0 (oSt 8 g5 g31) <|
 kD p6 (oMov g32) <|
 kD p33 (oMov g0) <|
 kD p34 (oMov g4) <|
 kD p35 (oLd true 8 g5) <|
 kCall p36 (cF 65 (aC g33 (aC g34 (aC g35 aN)))) <|
 kD p37 (oMov g0) <|
 kD p38 (oMov g4) <|
 kCall p39 (cF 43 (aC g37 (aC g38 aN))) <|
 kEnd) <|
 kD p40 (o_add g17 (ci 1)) <|
 kD p17 (oMov g40) <|
 kEnd,
 (rS [])⟩
/-- slices.Clone[[]wimple/api.Sent,wimple/api.Sent] -/
noncomputable def k41 : FnK := ⟨kD p2 (oMov (kV (.ref .nilsl))) <|
 kSeq (kD p3 (oMov g0) <|
 kD p4 (oPs (.eqx false .s (.t s3) (.k (.ref .nilsl)))) <|
 kCond g4 (kD p2 (oMov (kV (.ref .nilsl))) <|
 kRet) <|
 kEnd) <|
 kD p5 (oAs (.bsl false true 0 2 0 [(vi 0), (.str [])] [])) <|
 kD p6 (oMov g0) <|
 kD p7 (oApp 0 2 g5 g6 (oEs (.app false true 0 2 (.t s5) (.t s6)))) <|
 kD p2 (oMov g7) <|
 kRet,
 (r1 g2)⟩
/-- wimple/job.New -/
noncomputable def k42 : FnK := ⟨kD p4 (oBox g0) <|
 kD p8 (oMov (kV (.ref .nilptr))) <|
 kD p9 (oMov (ci 0)) <|
 kD p13 (oMov g2) <|
 kD p14 (oMov g3) <|
 kCall p15 (cF 66 (aC g13 (aC g14 (aC (kV (.str [0])) aN)))) <|
 kD p12 (oMov g15) <|
 kD p16 (oExt g12 0) <|
 kD p17 (oExt g12 1) <|
 kD p10 (oAlloc [(.str []), (vi 0), (.str []), (.str []), (vi 0), (.bool false), (vi 0), (vi 0)]) <|
 kD0 (oSt 8 g10 g16) <|
 kD p11 (oMov g17) <|
 kSeq (kD p18 (oLd true 11 g4) <|
 kCall p19 (cF 44 (aC g18 aN)) <|
 kD p20 (oNot g19) <|
 kD p21 (oMov g20) <|
 kD p22 (oG g21 false (oMov g1)) <|
 kD p23 (oG g21 false (o_lss g22 (ci 1))) <|
 kD p24 (oPick g21 (kV (.bool true)) g23) <|
 kD p25 (oMov g24) <|
 kD p26 (oG g25 false (oMov g11)) <|
 kD p27 (oG g25 false (o_neq g26 (ci 0))) <|
 kD p28 (oPick g25 (kV (.bool true)) g27) <|
 kCond g28 (kD p8 (oMov (kV (.ref .nilptr))) <|
 kD p9 (oMov (ci 2300)) <|
 kRet) <|
 kEnd) <|
 kD p29 (oMov g1) <|
 kD p30 (oLd true 8 g10) <|
 kD p31 (oAs (.bsl true true 0 8 1 [(.str []), (vi 0), (.str []), (.str []), (vi 0), (.bool false), (vi 0), (vi 0)] [(0, (.t s30))])) <|
 kD p32 (oFld 4 g4) <|
 kD p33 (oLd false 1 g32) <|
 kD p34 (oFld 5 g4) <|
 kD p35 (oLd false 1 g34) <|
 kD p36 (oFld 3 g4) <|
 kD p37 (oLd false 1 g36) <|
 kD p38 (oAs .mkm) <|
 kD p39 (oBuild [(vi 0), (.ref .nilsl), (vi 0), (vi 0), (vi 0), (.ref .mapn), (.ref .nilsl)] (bC 0 1 g29 (bC 1 1 g31 (bC 2 1 g33 (bC 3 1 g35 (bC 4 1 g37 (bC 5 1 g38 bN))))))) <|
 kD p40 (oBox g39) <|
 kD p8 (oMov g40) <|
 kD p9 (oMov (ci 0)) <|
 kRet,
 (r2 g8 g9)⟩
/-- (*wimple/iter.Resolver).run -/
noncomputable def k43 : FnK := ⟨kBlock 0 <|
 kLoop <|
 kBlock 1 <|
 kD p10 (oMov g1) <|
 kCall p11 (cF 64 (aC g10 aN)) <|
 kD p9 (oMov g11) <|
 kD p12 (oExt g9 0) <|
 kD p13 (oExt g9 1) <|
 kD p4 (oAlloc [(.str []), (vi 0), (.str []), (.str []), (vi 0), (.bool false), (vi 0), (vi 0)]) <|
 kD0 (oSt 8 g4 g12) <|
 kD p5 (oMov g13) <|
 kSeq (kD p15 (oMov g0) <|
 kD p16 (oMov g1) <|
 kCall p17 (cF 67 (aC g15 (aC g16 (aC g4 aN)))) <|
 kD p14 (oMov g17) <|
 kD p18 (oExt g14 0) <|
 kD p19 (oExt g14 1) <|
 kD p6 (oMov g18) <|
 kD p7 (oMov g19) <|
 kD p20 (oMov g6) <|
 kCond g20 (kSeq (kD p21 (oMov g7) <|
 kD p22 (oNot g21) <|
 kCond g22 (kRet) <|
 kEnd) <|
 kExit 1) <|
 kEnd) <|
 kD p23 (oMov g0) <|
 kD p24 (oMov g1) <|
 kCall p25 (cF 68 (aC g23 (aC g24 (aC g4 aN)))) <|
 kSeq (kD p26 (oMov g0) <|
 kD p27 (oNil g26) <|
 kD p28 (oFld 14 g27) <|
 kD p29 (oLd false 1 g28) <|
 kD p30 (oFld 2 g4) <|
 kD p31 (oLd false 1 g30) <|
 kD p32 (oMov g0) <|
 kD p33 (oNil g32) <|
 kD p34 (oFld 11 g33) <|
 kD p35 (oLd false 1 g34) <|
 kCall p36 (cF 70 (aC g29 (aC g31 (aC g35 aN)))) <|
 kCall p37 (cF 69 (aC g36 aN)) <|
 kD p8 (oMov g37) <|
 kD p38 (oFld 6 g4) <|
 kD p39 (oLd false 1 g38) <|
 kD p40 (oMov g8) <|
 kD p41 (oLenS g40) <|
 kD p42 (o_lss g39 g41) <|
 kCond g42 (kD p43 (oMov g0) <|
 kD p44 (oMov g1) <|
 kD p45 (oMov g8) <|
 kD p46 (oFld 6 g4) <|
 kD p47 (oLd false 1 g46) <|
 kD p48 (oIdx 1 g45 g47) <|
 kD p49 (oLd false 1 g48) <|
 kCall p50 (cF 71 (aC g43 (aC g44 (aC g4 (aC g49 aN))))) <|
 kRet) <|
 kEnd) <|
 kD p51 (oMov g0) <|
 kD p52 (oMov g1) <|
 kCall p53 (cF 72 (aC g51 (aC g52 (aC g4 aN)))) <|
 kD p54 (oNot g53) <|
 kD p55 (oMov g54) <|
 kD p56 (oG g55 true (oMov g0)) <|
 kD p57 (oG g55 true (oMov g1)) <|
 kCall p58 (cG g55 true (cF 73 (aC g56 (aC g57 aN)))) <|
 kD p59 (oG g55 true (oNot g58)) <|
 kD p60 (oPick g55 g59 (kV (.bool false))) <|
 kCond g60 (kRet) <|
 kEnd,
 (rS [])⟩
/-- wimple/job.May -/
noncomputable def k44 : FnK := ⟨kD p1 (oBox g0) <|
 kD p2 (oMov (kV (.bool false))) <|
 kD p7 (oFld 0 g1) <|
 kD p8 (oLd false 1 g7) <|
 kCall p9 (cF 49 (aC g8 aN)) <|
 kD p6 (oMov g9) <|
 kD p10 (oExt g6 0) <|
 kD p11 (oExt g6 1) <|
 kD p3 (oMov g10) <|
 kD p4 (oMov g11) <|
 kD p12 (oFld 1 g1) <|
 kD p13 (oLd false 1 g12) <|
 kCall p14 (cF 74 (aC g13 (aC (ci 1) (aC (ci 256) aN)))) <|
 kD p15 (oMov g14) <|
 kD p16 (oG g15 true (oFld 2 g1)) <|
 kD p17 (oG g15 true (oLd false 1 g16)) <|
 kCall p18 (cG g15 true (cF 74 (aC g17 (aC (ci 1) (aC (ci 16) aN))))) <|
 kD p19 (oPick g15 g18 (kV (.bool false))) <|
 kD p20 (oMov g19) <|
 kD p21 (oG g20 true (oFld 3 g1)) <|
 kD p22 (oG g20 true (oLd false 1 g21)) <|
 kCall p23 (cG g20 true (cF 74 (aC g22 (aC (ci 1) (aC (ci 64) aN))))) <|
 kD p24 (oPick g20 g23 (kV (.bool false))) <|
 kD p25 (oMov g24) <|
 kD p26 (oG g25 true (oFld 4 g1)) <|
 kD p27 (oG g25 true (oLd false 1 g26)) <|
 kCall p28 (cG g25 true (cF 74 (aC g27 (aC (ci 0) (aC (ci 4) aN))))) <|
 kD p29 (oPick g25 g28 (kV (.bool false))) <|
 kD p30 (oMov g29) <|
 kD p31 (oG g30 true (oFld 5 g1)) <|
 kD p32 (oG g30 true (oLd false 1 g31)) <|
 kCall p33 (cG g30 true (cF 74 (aC g32 (aC (ci 0) (aC (ci 8) aN))))) <|
 kD p34 (oPick g30 g33 (kV (.bool false))) <|
 kD p5 (oMov g34) <|
 kD p35 (oMov g4) <|
 kD p36 (o_eql g35 (ci 0)) <|
 kD p37 (oMov g36) <|
 kD p38 (oG g37 true (oMov g5)) <|
 kD p39 (oPick g37 g38 (kV (.bool false))) <|
 kD p40 (oMov g39) <|
 kD p41 (oG g40 true (oFld 6 g1)) <|
 kD p42 (oG g40 true (oLd false 1 g41)) <|
 kCall p43 (cG g40 true (cF 74 (aC g42 (aC (ci 1) (aC (ci 1000) aN))))) <|
 kD p44 (oPick g40 g43 (kV (.bool false))) <|
 kD p45 (oMov g44) <|
 kD p46 (oG g45 true (oFld 7 g1)) <|
 kD p47 (oG g45 true (oLd false 1 g46)) <|
 kCall p48 (cG g45 true (cF 74 (aC g47 (aC (ci 1) (aC (ci 8) aN))))) <|
 kD p49 (oPick g45 g48 (kV (.bool false))) <|
 kD p50 (oMov g49) <|
 kD p51 (oG g50 true (oFld 8 g1)) <|
 kD p52 (oG g50 true (oLd false 1 g51)) <|
 kCall p53 (cG g50 true (cF 74 (aC g52 (aC (ci 0) (aC (ci 16) aN))))) <|
 kD p54 (oPick g50 g53 (kV (.bool false))) <|
 kD p55 (oMov g54) <|
 kD p56 (oG g55 true (oFld 9 g1)) <|
 kD p57 (oG g55 true (oLd false 1 g56)) <|
 kCall p58 (cG g55 true (cF 74 (aC g57 (aC (ci 0) (aC (ci 16) aN))))) <|
 kD p59 (oPick g55 g58 (kV (.bool false))) <|
 kD p60 (oMov g59) <|
 kD p61 (oG g60 true (oFld 10 g1)) <|
 kD p62 (oG g60 true (oLd false 1 g61)) <|
 kD p63 (oG g60 true (oLenS g62)) <|
 kD p64 (oG g60 true (o_leq g63 (ci 1024))) <|
 kD p65 (oPick g60 g64 (kV (.bool false))) <|
 kD p2 (oMov g65) <|
 kRet,
 (r1 g2)⟩
/-- slices.Clone[[]wimple/api.Hint,wimple/api.Hint] -/
noncomputable def k45 : FnK := ⟨kD p2 (oMov (kV (.ref .nilsl))) <|
 kSeq (kD p3 (oMov g0) <|
 kD p4 (oPs (.eqx false .s (.t s3) (.k (.ref .nilsl)))) <|
 kCond g4 (kD p2 (oMov (kV (.ref .nilsl))) <|
 kRet) <|
 kEnd) <|
 kD p5 (oAs (.bsl false true 0 2 0 [(.str []), (vi 0)] [])) <|
 kD p6 (oMov g0) <|
 kD p7 (oApp 0 2 g5 g6 (oEs (.app false true 0 2 (.t s5) (.t s6)))) <|
 kD p2 (oMov g7) <|
 kRet,
 (r1 g2)⟩
/-- slices.Clone[[]int,int] -/
noncomputable def k46 : FnK := ⟨kD p2 (oMov (kV (.ref .nilsl))) <|
 kSeq (kD p3 (oMov g0) <|
 kD p4 (oPs (.eqx false .s (.t s3) (.k (.ref .nilsl)))) <|
 kCond g4 (kD p2 (oMov (kV (.ref .nilsl))) <|
 kRet) <|
 kEnd) <|
 kD p5 (oBsl1 0 1 0 lN) <|
 kD p6 (oMov g0) <|
 kD p7 (oApp 0 1 g5 g6 (oEs (.app false false 0 1 (.t s5) (.t s6)))) <|
 kD p2 (oMov g7) <|
 kRet,
 (r1 g2)⟩
/-- wimple/store.New -/
noncomputable def k47 : FnK := ⟨kD p2 (oMov (kV (.ref .nilptr))) <|
 kD p3 (oMov (ci 0)) <|
 kSeq (kD p4 (oMov g0) <|
 kD p5 (o_lss g4 (ci 1)) <|
 kD p6 (oMov g5) <|
 kD p7 (oG g6 false (oMov g0)) <|
 kD p8 (oG g6 false (o_gtr g7 (ci 256))) <|
 kD p9 (oPick g6 (kV (.bool true)) g8) <|
 kCond g9 (kD p2 (oMov (kV (.ref .nilptr))) <|
 kD p3 (oMov (ci 1300)) <|
 kRet) <|
 kEnd) <|
 kD p10 (oMov g0) <|
 kD p11 (oAs .mkm) <|
 kD p12 (oBuild [(vi 0), (.ref .mapn)] (bC 0 1 g10 (bC 1 1 g11 bN))) <|
 kD p13 (oBox g12) <|
 kD p2 (oMov g13) <|
 kD p3 (oMov (ci 0)) <|
 kRet,
 (r2 g2 g3)⟩
/-- wimple/neg.New -/
noncomputable def k48 : FnK := ⟨kD p2 (oMov (kV (.ref .nilptr))) <|
 kD p3 (oMov (ci 0)) <|
 kSeq (kD p4 (oMov g0) <|
 kD p5 (o_lss g4 (ci 1)) <|
 kD p6 (oMov g5) <|
 kD p7 (oG g6 false (oMov g0)) <|
 kD p8 (oG g6 false (o_gtr g7 (ci 256))) <|
 kD p9 (oPick g6 (kV (.bool true)) g8) <|
 kCond g9 (kD p2 (oMov (kV (.ref .nilptr))) <|
 kD p3 (oMov (ci 1400)) <|
 kRet) <|
 kEnd) <|
 kD p10 (oMov g0) <|
 kD p11 (oAs .mkm) <|
 kD p12 (oBuild [(vi 0), (.ref .mapn)] (bC 0 1 g10 (bC 1 1 g11 bN))) <|
 kD p13 (oBox g12) <|
 kD p2 (oMov g13) <|
 kD p3 (oMov (ci 0)) <|
 kRet,
 (r2 g2 g3)⟩
/-- wimple/cuts.New -/
noncomputable def k49 : FnK := ⟨kD p2 (oMov (kV (.ref .nilptr))) <|
 kD p3 (oMov (ci 0)) <|
 kSeq (kD p8 (oMov g0) <|
 kD p9 (oLenS g8) <|
 kD p10 (o_lss g9 (ci 1)) <|
 kD p11 (oMov g10) <|
 kD p12 (oG g11 false (oMov g0)) <|
 kD p13 (oG g11 false (oLenS g12)) <|
 kD p14 (oG g11 false (o_gtr g13 (ci 8))) <|
 kD p15 (oPick g11 (kV (.bool true)) g14) <|
 kCond g15 (kD p2 (oMov (kV (.ref .nilptr))) <|
 kD p3 (oMov (ci 1500)) <|
 kRet) <|
 kEnd) <|
 kD p16 (oAs .mkm) <|
 kD p17 (oBuild [(.ref .nilsl), (.ref .nilsl), (vi 0), (.str []), (.ref .mapn)] (bC 4 1 g16 bN)) <|
 kD p18 (oBox g17) <|
 kD p4 (oMov g18) <|
 kSeq (kD p19 (oMov g0) <|
 kD p20 (oLenS g19) <|
 kD p21 (oMov (ci 0)) <|
 kBlock 0 <|
 kLoop <|
 kD p22 (o_lss g21 g20) <|
 kSeq (kCond g22 (kEnd) <|
 kExit 0) <|
 kSeq (kBlock 1 <|
 kD p23 (oIdx 2 g19 g21) <|
 kD p24 (oLd true 2 g23) <|
 kD p6 (oAlloc [(.str []), (vi 0)]) <|
 kD0 (oSt 2 g6 g24) <|
 kSeq (kD p25 (oFld 0 g6) <|
 kD p26 (oLd false 1 g25) <|
 kCall p27 (cF 75 (aC g26 aN)) <|
 kD p28 (oNot g27) <|
 kD p29 (oMov g28) <|
 kD p30 (oG g29 false (oFld 1 g6)) <|
 kD p31 (oG g29 false (oLd false 1 g30)) <|
 kCall p32 (cG g29 false (cF 76 (aC g31 aN))) <|
 kD p33 (oG g29 false (oNot g32)) <|
 kD p34 (oPick g29 (kV (.bool true)) g33) <|
 kCond g34 (kD p2 (oMov (kV (.ref .nilptr))) <|
 kD p3 (oMov (ci 1500)) <|
 kRet) <|
 kEnd) <|
 kD p35 (oFld 0 g6) <|
 kD p36 (oLd false 1 g35) <|
 kCall p37 (cF 77 (aC g36 aN)) <|
 kD p7 (oMov g37) <|
 kSeq (kD p38 (oMov g4) <|
 kD p39 (oNil g38) <|
 kD p40 (oFld 0 g39) <|
 kD p41 (oFld 0 g40) <|
 kD p42 (oLd false 1 g41) <|
 kD p43 (oMov g7) <|
 kCall p44 (cF 78 (aC g42 (aC g43 aN))) <|
 kD p45 (oNot g44) <|
 kCond g45 (kD p46 (oMov g4) <|
 kD p47 (oMov g4) <|
 kD p48 (oNil g47) <|
 kD p49 (oFld 0 g48) <|
 kD p50 (oFld 0 g49) <|
 kD p51 (oLd false 1 g50) <|
 kD p52 (oMov g7) <|
 kD p53 (oBsl1 0 1 1 (lC g52 lN)) <|
 kD p54 (oApp 0 1 g51 g53 (oEs (.app false false 0 1 (.t s51) (.t s53)))) <|
 kD p55 (oNil g46) <|
 kD p56 (oFld 0 g55) <|
 kD p57 (oFld 0 g56) <|
 kD0 (oSt 1 g57 g54) <|
 kEnd) <|
 kEnd) <|
 kD p58 (oMov g4) <|
 kD p59 (oMov g4) <|
 kD p60 (oNil g59) <|
 kD p61 (oFld 0 g60) <|
 kD p62 (oFld 1 g61) <|
 kD p63 (oLd false 1 g62) <|
 kD p64 (oMov g7) <|
 kD p65 (oFld 1 g6) <|
 kD p66 (oLd false 1 g65) <|
 kD p67 (oBuild [(.str []), (.str []), (vi 0), (.str []), (vi 0)] (bC 0 1 (kV (.str [0])) (bC 1 1 g64 (bC 2 1 g66 (bC 3 1 (kV (.str [0])) bN))))) <|
 kD p68 (oAs (.bsl false true 0 5 1 [(.str []), (.str []), (vi 0), (.str []), (vi 0)] [(0, (.t s67))])) <|
 kD p69 (oApp 0 5 g63 g68 (oEs (.app false true 0 5 (.t s63) (.t s68)))) <|
 kD p70 (oNil g58) <|
 kD p71 (oFld 0 g70) <|
 kD p72 (oFld 1 g71) <|
 kD0 (oSt 1 g72 g69) <|
 kEnd) <|
 kD p73 (o_add g21 (ci 1)) <|
 kD p21 (oMov g73) <|
 kEnd) <|
 kD p74 (oMov g4) <|
 kD p2 (oMov g74) <|
 kD p3 (oMov (ci 0)) <|
 kRet,
 (r2 g2 g3)⟩
/-- wimple/ids.New -/
noncomputable def k50 : FnK := ⟨kD p2 (oMov (kV (.ref .nilptr))) <|
 kD p3 (oMov (ci 0)) <|
 kSeq (kD p4 (oMov g0) <|
 kD p5 (oLenS g4) <|
 kD p6 (o_gtr g5 (ci 1024)) <|
 kCond g6 (kD p2 (oMov (kV (.ref .nilptr))) <|
 kD p3 (oMov (ci 1800)) <|
 kRet) <|
 kEnd) <|
 kD p7 (oMov g0) <|
 kCall p8 (cF 46 (aC g7 aN)) <|
 kD p9 (oBuild [(.ref .nilsl)] (bC 0 1 g8 bN)) <|
 kD p10 (oBox g9) <|
 kD p2 (oMov g10) <|
 kD p3 (oMov (ci 0)) <|
 kRet,
 (r2 g2 g3)⟩
/-- wimple/out.New -/
noncomputable def k51 : FnK := ⟨kD p2 (oMov (kV (.ref .nilptr))) <|
 kD p3 (oMov (ci 0)) <|
 kSeq (kD p4 (oMov g0) <|
 kD p5 (o_lss g4 (ci 1)) <|
 kD p6 (oMov g5) <|
 kD p7 (oG g6 false (oMov g0)) <|
 kD p8 (oG g6 false (o_gtr g7 (ci 16))) <|
 kD p9 (oPick g6 (kV (.bool true)) g8) <|
 kCond g9 (kD p2 (oMov (kV (.ref .nilptr))) <|
 kD p3 (oMov (ci 1900)) <|
 kRet) <|
 kEnd) <|
 kD p10 (oMov g0) <|
 kD p11 (oAs .mkm) <|
 kD p12 (oBuild [(vi 0), (.ref .nilsl), (.ref .mapn)] (bC 0 1 g10 (bC 2 1 g11 bN))) <|
 kD p13 (oBox g12) <|
 kD p2 (oMov g13) <|
 kD p3 (oMov (ci 0)) <|
 kRet,
 (r2 g2 g3)⟩
/-- wimple/wimplelaw0.SameTexts -/
noncomputable def k52 : FnK := ⟨kD p4 (oMov (kV (.bool false))) <|
 kSeq (kD p6 (oMov g0) <|
 kD p7 (oLenS g6) <|
 kD p8 (oMov g1) <|
 kD p9 (oLenS g8) <|
 kD p10 (o_neq g7 g9) <|
 kCond g10 (kD p4 (oMov (kV (.bool false))) <|
 kRet) <|
 kEnd) <|
 kSeq (kD p5 (oMov (ci 0)) <|
 kBlock 0 <|
 kLoop <|
 kSeq (kD p11 (oMov g5) <|
 kD p12 (oMov g0) <|
 kD p13 (oLenS g12) <|
 kD p14 (o_lss g11 g13) <|
 kCond g14 (kEnd) <|
 kExit 0) <|
 kSeq (kBlock 1 <|
 kD p17 (oMov g0) <|
 kD p18 (oMov g5) <|
 kD p19 (oIdx 1 g17 g18) <|
 kD p20 (oLd false 1 g19) <|
 kD p21 (oMov g1) <|
 kD p22 (oMov g5) <|
 kD p23 (oIdx 1 g21 g22) <|
 kD p24 (oLd false 1 g23) <|
 kD p25 (o_neq g20 g24) <|
 kCond g25 (kD p4 (oMov (kV (.bool false))) <|
 kRet) <|
 kEnd) <|
 kD p15 (oMov g5) <|
 kD p16 (o_add g15 (ci 1)) <|
 kD p5 (oMov g16) <|
 kEnd) <|
 kD p4 (oMov (kV (.bool true))) <|
 kRet,
 (r1 g4)⟩
/-- wimple/match.Reply -/
noncomputable def k53 : FnK := ⟨kD p2 (oAlloc [(vi 0), (.bool false), (vi 0), (.bool false), (.bool false), (.bool false), (.bool false), (vi 0), (vi 0), (.ref .nilsl), (.ref .nilsl), (.ref .nilsl), (.ref .nilsl)]) <|
 kD p3 (oMov (ci 0)) <|
 kD p7 (oMov g0) <|
 kCall p8 (cF 79 (aC g7 aN)) <|
 kD p6 (oMov g8) <|
 kD p9 (oExt g6 0) <|
 kD p10 (oExt g6 1) <|
 kD p4 (oAlloc [(vi 0), (.bool false), (vi 0), (.bool false), (.bool false), (.bool false), (.bool false), (vi 0), (vi 0), (.ref .nilsl), (.ref .nilsl), (.ref .nilsl), (.ref .nilsl)]) <|
 kD0 (oSt 13 g4 g9) <|
 kD p5 (oMov g10) <|
 kSeq (kD p11 (oMov g5) <|
 kD p12 (o_neq g11 (ci 0)) <|
 kD p13 (oMov g12) <|
 kD p14 (oG g13 false (oFld 0 g4)) <|
 kD p15 (oG g13 false (oFld 1 g14)) <|
 kD p16 (oG g13 false (oLd false 1 g15)) <|
 kD p17 (oG g13 false (oNot g16)) <|
 kD p18 (oPick g13 (kV (.bool true)) g17) <|
 kD p19 (oMov g18) <|
 kD p20 (oG g19 false (oFld 0 g4)) <|
 kD p21 (oG g19 false (oFld 2 g20)) <|
 kD p22 (oG g19 false (oLd false 1 g21)) <|
 kD p23 (oG g19 false (o_neq g22 (ci 0))) <|
 kD p24 (oPick g19 (kV (.bool true)) g23) <|
 kD p25 (oMov g24) <|
 kD p26 (oG g25 false (oFld 9 g4)) <|
 kD p27 (oG g25 false (oLd false 1 g26)) <|
 kD p28 (oG g25 false (oLenS g27)) <|
 kD p29 (oG g25 false (o_neq g28 (ci 1))) <|
 kD p30 (oPick g25 (kV (.bool true)) g29) <|
 kCond g30 (kD p31 (oBuild [(vi 0), (.bool false), (vi 0), (.bool false), (.bool false), (.bool false), (.bool false), (vi 0), (vi 0), (.ref .nilsl), (.ref .nilsl), (.ref .nilsl), (.ref .nilsl)] bN) <|
 kD0 (oSt 13 g2 g31) <|
 kD p3 (oMov (ci 2000)) <|
 kRet) <|
 kEnd) <|
 kD p32 (oLd true 13 g4) <|
 kD0 (oSt 13 g2 g32) <|
 kD p3 (oMov (ci 0)) <|
 kRet,
 (rS [.cell s2 true 13, .tmp s3])⟩
/-- (*wimple/out.Table).Take -/
noncomputable def k54 : FnK := ⟨kD p7 (oBox g3) <|
 kD p8 (oAlloc [(vi 0), (vi 0), (vi 0), (.str []), (.str []), (.str []), (vi 0), (vi 0)]) <|
 kD p9 (oMov (ci 0)) <|
 kSeq (kD p13 (oMov g0) <|
 kD p14 (oPs (.eqx false .p (.t s13) (.k (.ref .nilptr)))) <|
 kCond g14 (kD p15 (oBuild [(vi 0), (vi 0), (vi 0), (.str []), (.str []), (.str []), (vi 0), (vi 0)] bN) <|
 kD0 (oSt 8 g8 g15) <|
 kD p9 (oMov (ci 1)) <|
 kRet) <|
 kEnd) <|
 kD p16 (oMov g1) <|
 kD p17 (oMov g2) <|
 kD p18 (oFld 0 g7) <|
 kD p19 (oLd false 1 g18) <|
 kD p21 (oFld 1 g7) <|
 kD p22 (oLd false 1 g21) <|
 kD p10 (oAlloc [(vi 0), (vi 0), (.str []), (vi 0)]) <|
 kCall p20 (cF 77 (aC g19 aN)) <|
 kChk g22 (oLd false 1 g21) <|
 kD p23 (oBuild [(vi 0), (vi 0), (.str []), (vi 0)] (bC 0 1 g16 (bC 1 1 g17 (bC 2 1 g20 (bC 3 1 g22 bN))))) <|
 kD0 (oSt 4 g10 g23) <|
 kSeq (kD p24 (oFld 2 g7) <|
 kD p25 (oLd false 1 g24) <|
 kD p26 (o_neq g25 (ci 1)) <|
 kD p27 (oMov g26) <|
 kD p28 (oG g27 false (oMov g0)) <|
 kD p29 (oG g27 false (oNil g28)) <|
 kD p30 (oG g27 false (oFld 2 g29)) <|
 kD p31 (oG g27 false (oLd false 1 g30)) <|
 kD p32 (oG g27 false (oLd true 4 g10)) <|
 kD p33 (oG g27 false (oRs (.lkp ⟨true, [(.int .i64), (.int .i64), .str, (.int .i64)]⟩ false (vi 0) (.t s31) (.t s32)))) <|
 kD p34 (oG g27 false (o_eql g33 (ci 0))) <|
 kD p35 (oPick g27 (kV (.bool true)) g34) <|
 kCond g35 (kD p36 (oBuild [(vi 0), (vi 0), (vi 0), (.str []), (.str []), (.str []), (vi 0), (vi 0)] bN) <|
 kD0 (oSt 8 g8 g36) <|
 kD p9 (oMov (ci 1902)) <|
 kRet) <|
 kEnd) <|
 kD p37 (oMov g0) <|
 kD p38 (oNil g37) <|
 kD p39 (oFld 1 g38) <|
 kD p40 (oLd false 1 g39) <|
 kD p41 (oPs (.mkf 81 [] [(.t s10)])) <|
 kCall p42 (cF 80 (aC g40 (aC g41 aN))) <|
 kD p11 (oMov g42) <|
 kD p43 (oMov g0) <|
 kD p44 (oNil g43) <|
 kD p45 (oFld 1 g44) <|
 kD p46 (oLd false 1 g45) <|
 kD p47 (oMov g11) <|
 kD p48 (oIdx 8 g46 g47) <|
 kD p49 (oLd true 8 g48) <|
 kD p12 (oAlloc [(vi 0), (vi 0), (vi 0), (.str []), (.str []), (.str []), (vi 0), (vi 0)]) <|
 kD0 (oSt 8 g12 g49) <|
 kD p50 (oMov g0) <|
 kD p51 (oMov g0) <|
 kD p52 (oNil g51) <|
 kD p53 (oFld 1 g52) <|
 kD p54 (oLd false 1 g53) <|
 kD p55 (oMov g11) <|
 kD p56 (oMov g11) <|
 kD p57 (o_add g56 (ci 1)) <|
 kCall p58 (cF 83 (aC g54 (aC g55 (aC g57 aN)))) <|
 kD p59 (oNil g50) <|
 kD p60 (oFld 1 g59) <|
 kD0 (oSt 1 g60 g58) <|
 kD p61 (oMov g0) <|
 kCall p62 (cF 84 (aC g61 (aC g12 aN))) <|
 kD p63 (oLd true 8 g12) <|
 kD0 (oSt 8 g8 g63) <|
 kD p9 (oMov (ci 0)) <|
 kRet,
 (rS [.cell s8 true 8, .tmp s9])⟩
/-- wimple/bail.Filter -/
noncomputable def k55 : FnK := ⟨kD p2 (oBox g0) <|
 kD p4 (oAlloc [(vi 0), (.bool false), (vi 0), (.bool false), (.bool false), (.bool false), (.bool false), (vi 0), (vi 0), (.ref .nilsl), (.ref .nilsl), (.ref .nilsl), (.ref .nilsl)]) <|
 kD p5 (oMov (ci 0)) <|
 kSeq (kD p6 (oMov g1) <|
 kCall p7 (cF 75 (aC g6 aN)) <|
 kD p8 (oNot g7) <|
 kCond g8 (kD p9 (oBuild [(vi 0), (.bool false), (vi 0), (.bool false), (.bool false), (.bool false), (.bool false), (vi 0), (vi 0), (.ref .nilsl), (.ref .nilsl), (.ref .nilsl), (.ref .nilsl)] bN) <|
 kD0 (oSt 13 g4 g9) <|
 kD p5 (oMov (ci 1200)) <|
 kRet) <|
 kEnd) <|
 kD p10 (oFld 9 g2) <|
 kD p11 (oLd false 1 g10) <|
 kD p12 (oApp 0 3 (kV (.ref .nilsl)) g11 (oEs (.app false true 0 3 (.k (.ref .nilsl)) (.t s11)))) <|
 kD p13 (oFld 9 g2) <|
 kD0 (oSt 1 g13 g12) <|
 kD p14 (oFld 10 g2) <|
 kD p15 (oLd false 1 g14) <|
 kD p16 (oMov g1) <|
 kD p18 (oFld 11 g2) <|
 kD p19 (oLd false 1 g18) <|
 kD p20 (oMov g1) <|
 kD p22 (oFld 12 g2) <|
 kD p23 (oLd false 1 g22) <|
 kD p24 (oMov g1) <|
 kCall p17 (cF 85 (aC g15 (aC g16 aN))) <|
 kChk g23 (oLd false 1 g22) <|
 kChk g19 (oLd false 1 g18) <|
 kD p26 (oFld 10 g2) <|
 kCall p21 (cF 85 (aC g19 (aC g20 aN))) <|
 kChk g23 (oLd false 1 g22) <|
 kCall p25 (cF 85 (aC g23 (aC g24 aN))) <|
 kD0 (oSt 1 g26 g17) <|
 kD p27 (oFld 11 g2) <|
 kD0 (oSt 1 g27 g21) <|
 kD p28 (oFld 12 g2) <|
 kD0 (oSt 1 g28 g25) <|
 kD p29 (oLd true 13 g2) <|
 kD0 (oSt 13 g4 g29) <|
 kD p5 (oMov (ci 0)) <|
 kRet,
 (rS [.cell s4 true 13, .tmp s5])⟩
/-- (*wimple/iter.Resolver).take -/
noncomputable def k56 : FnK := ⟨kD p7 (oBox g3) <|
 kD p8 (oMov (kV (.bool false))) <|
 kD p16 (oMov g1) <|
 kCall p17 (cF 64 (aC g16 aN)) <|
 kD p15 (oMov g17) <|
 kD p18 (oExt g15 0) <|
 kD p19 (oExt g15 1) <|
 kD p9 (oAlloc [(.str []), (vi 0), (.str []), (.str []), (vi 0), (.bool false), (vi 0), (vi 0)]) <|
 kD0 (oSt 8 g9 g18) <|
 kD p10 (oMov g19) <|
 kD p21 (oMov g2) <|
 kD p22 (oNil g21) <|
 kD p23 (oLd true 13 g22) <|
 kD p24 (oLd true 8 g9) <|
 kD p25 (oLd true 2 g7) <|
 kCall p26 (cF 86 (aC g23 (aC g24 (aC g25 aN)))) <|
 kD p20 (oMov g26) <|
 kD p27 (oExt g20 0) <|
 kD p28 (oExt g20 1) <|
 kD p11 (oMov g27) <|
 kD p12 (oMov g28) <|
 kSeq (kD p29 (oMov g11) <|
 kBlock 0 <|
 kSeq (kBlock 7 <|
 kSeq (kBlock 6 <|
 kSeq (kBlock 5 <|
 kSeq (kBlock 4 <|
 kSeq (kBlock 3 <|
 kSeq (kBlock 2 <|
 kSeq (kBlock 1 <|
 kSeq (kSeq (kD p31 (o_eql g29 (ci 0)) <|
 kD p30 (oMov g31) <|
 kCond g30 (kExit 1) <|
 kEnd) <|
 kSeq (kD p33 (o_eql g29 (ci 1)) <|
 kD p32 (oMov g33) <|
 kCond g32 (kExit 2) <|
 kEnd) <|
 kSeq (kSeq (kD p35 (o_eql g29 (ci 3)) <|
 kD p34 (oMov g35) <|
 kCond g34 (kEnd) <|
 kD p36 (o_eql g29 (ci 2)) <|
 kD p34 (oMov g36) <|
 kEnd) <|
 kCond g34 (kExit 3) <|
 kEnd) <|
 kSeq (kD p38 (o_eql g29 (ci 4)) <|
 kD p37 (oMov g38) <|
 kCond g37 (kExit 4) <|
 kEnd) <|
 kSeq (kD p40 (o_eql g29 (ci 5)) <|
 kD p39 (oMov g40) <|
 kCond g39 (kExit 5) <|
 kEnd) <|
 kD p42 (o_eql g29 (ci 6)) <|
 kD p41 (oMov g42) <|
 kCond g41 (kExit 6) <|
 kEnd) <|
 kExit 7) <|
 kD p43 (oMov g0) <|
 kD p44 (oMov g1) <|
 kD p45 (oLd true 8 g9) <|
 kCall p46 (cF 65 (aC g43 (aC g44 (aC g45 aN)))) <|
 kExit 0) <|
 kD p48 (oMov g2) <|
 kD p49 (oNil g48) <|
 kD p50 (oLd true 13 g49) <|
 kD p51 (oLd true 8 g9) <|
 kD p52 (oLd true 2 g7) <|
 kD p13 (oAlloc [(.str []), (.ref .nilsl), (.ref .nilsl), (vi 0)]) <|
 kCall p53 (cF 87 (aC g50 (aC g51 (aC g52 aN)))) <|
 kD p47 (oMov g53) <|
 kD p54 (oExt g47 0) <|
 kD p55 (oExt g47 1) <|
 kD0 (oSt 4 g13 g54) <|
 kD p14 (oMov g55) <|
 kD p56 (oMov g0) <|
 kD p57 (oNil g56) <|
 kD p58 (oFld 14 g57) <|
 kD p59 (oLd false 1 g58) <|
 kD p60 (oLd true 4 g13) <|
 kD p61 (oFld 2 g9) <|
 kD p62 (oLd false 1 g61) <|
 kD p63 (oMov g0) <|
 kD p64 (oNil g63) <|
 kD p65 (oFld 11 g64) <|
 kD p66 (oLd false 1 g65) <|
 kCall p67 (cF 88 (aC g59 (aC g60 (aC g62 (aC g66 aN))))) <|
 kEnd) <|
 kSeq (kD p69 (oLd true 8 g9) <|
 kD p70 (oLd true 2 g7) <|
 kD p71 (oMov g11) <|
 kCall p72 (cF 89 (aC g69 (aC g70 (aC g71 aN)))) <|
 kD p68 (oMov g72) <|
 kD p73 (oExt g68 0) <|
 kD p74 (oExt g68 1) <|
 kD p75 (oExt g68 2) <|
 kD0 (oSt 8 g9 g73) <|
 kD p76 (oMov g1) <|
 kD p77 (oLd true 8 g9) <|
 kCall p78 (cF 90 (aC g76 (aC g77 aN))) <|
 kEnd) <|
 kExit 0) <|
 kSeq (kD p79 (oMov g0) <|
 kD p80 (oMov g1) <|
 kD p81 (oMov g0) <|
 kD p82 (oMov g2) <|
 kD p83 (oFld 0 g9) <|
 kD p84 (oLd false 1 g83) <|
 kD p85 (oFld 1 g9) <|
 kD p86 (oLd false 1 g85) <|
 kCall p87 (cF 92 (aC g81 (aC g82 (aC g84 (aC g86 aN))))) <|
 kCall p88 (cF 91 (aC g79 (aC g80 (aC g87 aN)))) <|
 kD p8 (oMov g88) <|
 kRet) <|
 kExit 0) <|
 kSeq (kD p89 (oMov g0) <|
 kD p90 (oMov g1) <|
 kD p91 (oMov g0) <|
 kD p92 (oMov g2) <|
 kD p93 (oFld 0 g9) <|
 kD p94 (oLd false 1 g93) <|
 kCall p95 (cF 92 (aC g91 (aC g92 (aC g94 (aC (ci 5) aN))))) <|
 kCall p96 (cF 93 (aC g89 (aC g90 (aC g95 aN)))) <|
 kD p8 (oMov g96) <|
 kRet) <|
 kExit 0) <|
 kSeq (kD p97 (oMov g0) <|
 kD p98 (oMov g2) <|
 kD p99 (oFld 0 g9) <|
 kD p100 (oLd false 1 g99) <|
 kCall p101 (cF 94 (aC g97 (aC g98 (aC g100 (aC (ci 0) aN))))) <|
 kD p102 (oMov g0) <|
 kD p103 (oMov g1) <|
 kCall p104 (cF 95 (aC g102 (aC g103 (aC (ci 3) aN)))) <|
 kD p8 (oMov g104) <|
 kRet) <|
 kExit 0) <|
 kSeq (kD p105 (oMov g0) <|
 kD p106 (oMov g2) <|
 kD p107 (oFld 0 g9) <|
 kD p108 (oLd false 1 g107) <|
 kD p109 (oFld 1 g9) <|
 kD p110 (oLd false 1 g109) <|
 kCall p111 (cF 94 (aC g105 (aC g106 (aC g108 (aC g110 aN))))) <|
 kD p112 (oMov g0) <|
 kD p113 (oMov g1) <|
 kCall p114 (cF 95 (aC g112 (aC g113 (aC (ci 0) aN)))) <|
 kD p8 (oMov g114) <|
 kRet) <|
 kExit 0) <|
 kD p8 (oMov (kV (.bool true))) <|
 kRet,
 (r1 g8)⟩
/-- wimple/wimpleref4.PutMsg -/
noncomputable def k57 : FnK := ⟨kD p1 (oBox g0) <|
 kD p2 (oMov (kV (.str []))) <|
 kD p3 (oMov (ci 0)) <|
 kSeq (kD p12 (oLd true 13 g1) <|
 kCall p13 (cF 96 (aC g12 aN)) <|
 kD p14 (oNot g13) <|
 kCond g14 (kD p2 (oMov (kV (.str []))) <|
 kD p3 (oMov (ci 700)) <|
 kRet) <|
 kEnd) <|
 kD p15 (oBuild [(.str []), (.ref .nilsl)] bN) <|
 kD p16 (oBox g15) <|
 kD p4 (oMov g16) <|
 kD p18 (oFld 0 g1) <|
 kD p19 (oLd true 9 g18) <|
 kD p20 (oFld 9 g1) <|
 kD p21 (oLd false 1 g20) <|
 kD p22 (oLenS g21) <|
 kD p23 (oFld 10 g1) <|
 kD p24 (oLd false 1 g23) <|
 kD p25 (oLenS g24) <|
 kD p26 (oFld 11 g1) <|
 kD p27 (oLd false 1 g26) <|
 kD p28 (oLenS g27) <|
 kD p29 (oFld 12 g1) <|
 kD p30 (oLd false 1 g29) <|
 kD p31 (oLenS g30) <|
 kD p32 (oBuild [(vi 0), (vi 0), (vi 0), (vi 0)] (bC 0 1 g22 (bC 1 1 g25 (bC 2 1 g28 (bC 3 1 g31 bN))))) <|
 kCall p33 (cF 97 (aC g19 (aC g32 aN))) <|
 kD p17 (oMov g33) <|
 kD p34 (oExt g17 0) <|
 kD p35 (oExt g17 1) <|
 kD p5 (oMov g34) <|
 kD p6 (oMov g35) <|
 kD p36 (oMov g4) <|
 kD p37 (oMov g5) <|
 kCall p38 (cF 98 (aC g36 (aC g37 aN))) <|
 kSeq (kD p7 (oMov (ci 0)) <|
 kBlock 0 <|
 kLoop <|
 kSeq (kD p39 (oMov g7) <|
 kD p40 (oFld 9 g1) <|
 kD p41 (oLd false 1 g40) <|
 kD p42 (oLenS g41) <|
 kD p43 (o_lss g39 g42) <|
 kCond g43 (kEnd) <|
 kExit 0) <|
 kSeq (kBlock 1 <|
 kD p46 (oFld 9 g1) <|
 kD p47 (oLd false 1 g46) <|
 kD p48 (oMov g7) <|
 kD p49 (oIdx 3 g47 g48) <|
 kD p50 (oLd true 3 g49) <|
 kD p8 (oAlloc [(.str []), (vi 0), (vi 0)]) <|
 kD0 (oSt 3 g8 g50) <|
 kD p51 (oMov g4) <|
 kD p52 (oFld 0 g8) <|
 kD p53 (oLd false 1 g52) <|
 kCall p54 (cF 99 (aC g51 (aC g53 aN))) <|
 kD p55 (o_neq g54 (ci 0)) <|
 kD p56 (oMov g55) <|
 kD p57 (oG g56 false (oMov g4)) <|
 kD p58 (oG g56 false (oFld 1 g8)) <|
 kD p59 (oG g56 false (oLd false 1 g58)) <|
 kD p61 (oG g56 false (oFld 2 g8)) <|
 kD p62 (oG g56 false (oLd false 1 g61)) <|
 kCall p60 (cG g56 false (cF 100 (aC g59 (aC (ci 2) aN)))) <|
 kChkG g56 false g62 (oLd false 1 g61) <|
 kCall p63 (cG g56 false (cF 100 (aC g62 (aC (ci 2) aN)))) <|
 kD p64 (oG g56 false (o_add g60 g63)) <|
 kCall p65 (cG g56 false (cF 98 (aC g57 (aC g64 aN)))) <|
 kD p66 (oG g56 false (o_neq g65 (ci 0))) <|
 kD p67 (oPick g56 (kV (.bool true)) g66) <|
 kCond g67 (kD p2 (oMov (kV (.str []))) <|
 kD p3 (oMov (ci 701)) <|
 kRet) <|
 kEnd) <|
 kD p44 (oMov g7) <|
 kD p45 (o_add g44 (ci 1)) <|
 kD p7 (oMov g45) <|
 kEnd) <|
 kD p68 (oFld 10 g1) <|
 kD p69 (oLd false 1 g68) <|
 kD p70 (oFld 11 g1) <|
 kD p71 (oLd false 1 g70) <|
 kD p72 (oFld 12 g1) <|
 kD p73 (oLd false 1 g72) <|
 kD p74 (oBsl1 0 1 3 (lC g69 (lC g71 (lC g73 lN)))) <|
 kD p9 (oMov g74) <|
 kSeq (kD p10 (oMov (ci 0)) <|
 kBlock 2 <|
 kLoop <|
 kSeq (kD p75 (oMov g10) <|
 kD p76 (o_lss g75 (ci 3)) <|
 kCond g76 (kEnd) <|
 kExit 2) <|
 kSeq (kBlock 3 <|
 kD p11 (oMov (ci 0)) <|
 kBlock 4 <|
 kLoop <|
 kSeq (kD p79 (oMov g11) <|
 kD p80 (oMov g9) <|
 kD p81 (oMov g10) <|
 kD p82 (oIdx 1 g80 g81) <|
 kD p83 (oLd false 1 g82) <|
 kD p84 (oLenS g83) <|
 kD p85 (o_lss g79 g84) <|
 kCond g85 (kEnd) <|
 kExit 4) <|
 kSeq (kBlock 5 <|
 kD p88 (oMov g4) <|
 kD p89 (oMov g9) <|
 kD p90 (oMov g10) <|
 kD p91 (oIdx 1 g89 g90) <|
 kD p92 (oLd false 1 g91) <|
 kD p93 (oMov g11) <|
 kD p94 (oIdx 5 g92 g93) <|
 kD p95 (oLd true 5 g94) <|
 kCall p96 (cF 101 (aC g88 (aC g95 aN))) <|
 kD p97 (oNot g96) <|
 kCond g97 (kD p2 (oMov (kV (.str []))) <|
 kD p3 (oMov (ci 701)) <|
 kRet) <|
 kEnd) <|
 kD p86 (oMov g11) <|
 kD p87 (o_add g86 (ci 1)) <|
 kD p11 (oMov g87) <|
 kEnd) <|
 kD p77 (oMov g10) <|
 kD p78 (o_add g77 (ci 1)) <|
 kD p10 (oMov g78) <|
 kEnd) <|
 kD p98 (oMov g4) <|
 kCall p99 (cF 102 (aC g98 aN)) <|
 kD p2 (oMov g99) <|
 kD p3 (oMov (ci 0)) <|
 kRet,
 (r2 g2 g3)⟩
/-- wimple/wimpleref4.GetHead -/
noncomputable def k59 : FnK := ⟨kD p2 (oAlloc [(vi 0), (.bool false), (vi 0), (.bool false), (.bool false), (.bool false), (.bool false), (vi 0), (vi 0)]) <|
 kD p3 (oAlloc [(vi 0), (vi 0), (vi 0), (vi 0)]) <|
 kD p4 (oMov (ci 0)) <|
 kD p5 (oAlloc [(vi 0), (vi 0), (vi 0), (vi 0)]) <|
 kSeq (kD p16 (oMov g0) <|
 kD p17 (oLenT g16) <|
 kD p18 (o_lss g17 (ci 12)) <|
 kCond g18 (kD p19 (oBuild [(vi 0), (.bool false), (vi 0), (.bool false), (.bool false), (.bool false), (.bool false), (vi 0), (vi 0)] bN) <|
 kD p20 (oLd true 4 g5) <|
 kD0 (oSt 9 g2 g19) <|
 kChk g20 (oLd true 4 g5) <|
 kD0 (oSt 4 g3 g20) <|
 kD p4 (oMov (ci 600)) <|
 kRet) <|
 kEnd) <|
 kD p22 (oMov g0) <|
 kCall p23 (cF 104 (aC g22 (aC (ci 0) (aC (ci 2) aN)))) <|
 kD p21 (oMov g23) <|
 kD p24 (oExt g21 0) <|
 kD p25 (oExt g21 1) <|
 kD p26 (oExt g21 2) <|
 kD p6 (oMov g24) <|
 kD p7 (oMov g25) <|
 kD p8 (oMov g26) <|
 kD p28 (oMov g0) <|
 kCall p29 (cF 104 (aC g28 (aC (ci 2) (aC (ci 2) aN)))) <|
 kD p27 (oMov g29) <|
 kD p30 (oExt g27 0) <|
 kD p31 (oExt g27 1) <|
 kD p32 (oExt g27 2) <|
 kD p9 (oMov g30) <|
 kD p10 (oMov g31) <|
 kD p11 (oMov g32) <|
 kSeq (kD p12 (oMov (ci 0)) <|
 kBlock 0 <|
 kLoop <|
 kSeq (kD p33 (oMov g12) <|
 kD p34 (o_lss g33 (ci 4)) <|
 kCond g34 (kEnd) <|
 kExit 0) <|
 kSeq (kBlock 1 <|
 kD p38 (oMov g0) <|
 kD p39 (oMov g12) <|
 kD p40 (o_mul (ci 2) g39) <|
 kD p41 (o_add (ci 4) g40) <|
 kCall p42 (cF 104 (aC g38 (aC g41 (aC (ci 2) aN)))) <|
 kD p37 (oMov g42) <|
 kD p43 (oExt g37 0) <|
 kD p44 (oExt g37 1) <|
 kD p45 (oExt g37 2) <|
 kD p13 (oMov g43) <|
 kD p14 (oMov g44) <|
 kD p15 (oMov g45) <|
 kD p46 (oMov g12) <|
 kD p47 (oMov g13) <|
 kD p48 (oIdxa 4 1 g5 g46) <|
 kD0 (oSt 1 g48 g47) <|
 kEnd) <|
 kD p35 (oMov g12) <|
 kD p36 (o_add g35 (ci 1)) <|
 kD p12 (oMov g36) <|
 kEnd) <|
 kD p49 (oMov g6) <|
 kD p50 (oMov g9) <|
 kD p51 (o_shr g50 (kV (.int .u64 (.c (.ofNat 15))))) <|
 kD p52 (o_and g51 (ci 1)) <|
 kD p53 (o_eql g52 (ci 1)) <|
 kD p54 (oMov g9) <|
 kD p55 (o_shr g54 (kV (.int .u64 (.c (.ofNat 11))))) <|
 kD p56 (o_and g55 (ci 15)) <|
 kD p57 (oMov g9) <|
 kD p58 (o_shr g57 (kV (.int .u64 (.c (.ofNat 10))))) <|
 kD p59 (o_and g58 (ci 1)) <|
 kD p60 (o_eql g59 (ci 1)) <|
 kD p61 (oMov g9) <|
 kD p62 (o_shr g61 (kV (.int .u64 (.c (.ofNat 9))))) <|
 kD p63 (o_and g62 (ci 1)) <|
 kD p64 (o_eql g63 (ci 1)) <|
 kD p65 (oMov g9) <|
 kD p66 (o_shr g65 (kV (.int .u64 (.c (.ofNat 8))))) <|
 kD p67 (o_and g66 (ci 1)) <|
 kD p68 (o_eql g67 (ci 1)) <|
 kD p69 (oMov g9) <|
 kD p70 (o_shr g69 (kV (.int .u64 (.c (.ofNat 7))))) <|
 kD p71 (o_and g70 (ci 1)) <|
 kD p72 (o_eql g71 (ci 1)) <|
 kD p73 (oMov g9) <|
 kD p74 (o_shr g73 (kV (.int .u64 (.c (.ofNat 4))))) <|
 kD p75 (o_and g74 (ci 7)) <|
 kD p76 (oMov g9) <|
 kD p77 (o_and g76 (ci 15)) <|
 kD p78 (oBuild [(vi 0), (.bool false), (vi 0), (.bool false), (.bool false), (.bool false), (.bool false), (vi 0), (vi 0)] (bC 0 1 g49 (bC 1 1 g53 (bC 2 1 g56 (bC 3 1 g60 (bC 4 1 g64 (bC 5 1 g68 (bC 6 1 g72 (bC 7 1 g75 (bC 8 1 g77 bN)))))))))) <|
 kD p79 (oLd true 4 g5) <|
 kD0 (oSt 9 g2 g78) <|
 kChk g79 (oLd true 4 g5) <|
 kD0 (oSt 4 g3 g79) <|
 kD p4 (oMov (ci 0)) <|
 kRet,
 (rS [.cell s2 true 9, .cell s3 true 4, .tmp s4])⟩
/-- wimple/wimpleref4.question -/
noncomputable def k60 : FnK := ⟨kD p4 (oAlloc [(.str []), (vi 0), (vi 0)]) <|
 kD p5 (oMov (ci 0)) <|
 kD p6 (oMov (kV (.bool false))) <|
 kD p17 (oMov g0) <|
 kD p18 (oMov g1) <|
 kCall p19 (cF 105 (aC g17 (aC g18 aN))) <|
 kD p16 (oMov g19) <|
 kD p20 (oExt g16 0) <|
 kD p21 (oExt g16 1) <|
 kD p22 (oExt g16 2) <|
 kD p7 (oMov g20) <|
 kD p8 (oMov g21) <|
 kD p9 (oMov g22) <|
 kSeq (kD p23 (oMov g9) <|
 kD p24 (o_neq g23 (ci 0)) <|
 kCond g24 (kD p25 (oBuild [(.str []), (vi 0), (vi 0)] bN) <|
 kD0 (oSt 3 g4 g25) <|
 kD p5 (oMov (ci 0)) <|
 kD p6 (oMov (kV (.bool false))) <|
 kRet) <|
 kEnd) <|
 kD p27 (oMov g0) <|
 kD p28 (oMov g8) <|
 kCall p29 (cF 104 (aC g27 (aC g28 (aC (ci 2) aN)))) <|
 kD p26 (oMov g29) <|
 kD p30 (oExt g26 0) <|
 kD p31 (oExt g26 1) <|
 kD p32 (oExt g26 2) <|
 kD p10 (oMov g30) <|
 kD p11 (oMov g31) <|
 kD p12 (oMov g32) <|
 kD p34 (oMov g0) <|
 kD p35 (oMov g11) <|
 kCall p36 (cF 104 (aC g34 (aC g35 (aC (ci 2) aN)))) <|
 kD p33 (oMov g36) <|
 kD p37 (oExt g33 0) <|
 kD p38 (oExt g33 1) <|
 kD p39 (oExt g33 2) <|
 kD p13 (oMov g37) <|
 kD p14 (oMov g38) <|
 kD p15 (oMov g39) <|
 kD p40 (oMov g7) <|
 kD p41 (oMov g10) <|
 kD p42 (oMov g13) <|
 kD p43 (oBuild [(.str []), (vi 0), (vi 0)] (bC 0 1 g40 (bC 1 1 g41 (bC 2 1 g42 bN)))) <|
 kD p44 (oMov g14) <|
 kD p45 (oMov g12) <|
 kD p46 (o_eql g45 (ci 0)) <|
 kD p47 (oMov g46) <|
 kD p48 (oG g47 true (oMov g15)) <|
 kD p49 (oG g47 true (o_eql g48 (ci 0))) <|
 kD p50 (oPick g47 g49 (kV (.bool false))) <|
 kD p51 (oMov g50) <|
 kD p52 (oG g51 true (oMov g10)) <|
 kD p53 (oG g51 true (o_gtr g52 (ci 0))) <|
 kD p54 (oPick g51 g53 (kV (.bool false))) <|
 kD0 (oSt 3 g4 g43) <|
 kD p5 (oMov g44) <|
 kD p6 (oMov g54) <|
 kRet,
 (rS [.cell s4 true 3, .tmp s5, .tmp s6])⟩
/-- wimple/wimpleref4.record -/
noncomputable def k61 : FnK := ⟨kD p4 (oAlloc [(.str []), (vi 0), (vi 0), (vi 0), (.str [])]) <|
 kD p5 (oMov (ci 0)) <|
 kD p6 (oMov (kV (.bool false))) <|
 kD p19 (oMov g0) <|
 kD p20 (oMov g1) <|
 kCall p21 (cF 60 (aC g19 (aC g20 aN))) <|
 kD p18 (oMov g21) <|
 kD p22 (oExt g18 0) <|
 kD p23 (oExt g18 1) <|
 kD p24 (oExt g18 2) <|
 kD p7 (oAlloc [(.str []), (vi 0), (vi 0)]) <|
 kD0 (oSt 3 g7 g22) <|
 kD p8 (oMov g23) <|
 kD p9 (oMov g24) <|
 kSeq (kD p25 (oMov g9) <|
 kD p26 (oNot g25) <|
 kCond g26 (kD p27 (oBuild [(.str []), (vi 0), (vi 0), (vi 0), (.str [])] bN) <|
 kD0 (oSt 5 g4 g27) <|
 kD p5 (oMov (ci 0)) <|
 kD p6 (oMov (kV (.bool false))) <|
 kRet) <|
 kEnd) <|
 kD p29 (oMov g0) <|
 kD p30 (oMov g8) <|
 kCall p31 (cF 104 (aC g29 (aC g30 (aC (ci 4) aN)))) <|
 kD p28 (oMov g31) <|
 kD p32 (oExt g28 0) <|
 kD p33 (oExt g28 1) <|
 kD p34 (oExt g28 2) <|
 kD p10 (oMov g32) <|
 kD p11 (oMov g33) <|
 kD p12 (oMov g34) <|
 kD p36 (oMov g0) <|
 kD p37 (oMov g11) <|
 kCall p38 (cF 104 (aC g36 (aC g37 (aC (ci 2) aN)))) <|
 kD p35 (oMov g38) <|
 kD p39 (oExt g35 0) <|
 kD p40 (oExt g35 1) <|
 kD p41 (oExt g35 2) <|
 kD p13 (oMov g39) <|
 kD p14 (oMov g40) <|
 kD p15 (oMov g41) <|
 kSeq (kD p42 (oMov g12) <|
 kD p43 (o_neq g42 (ci 0)) <|
 kD p44 (oMov g43) <|
 kD p45 (oG g44 false (oMov g15)) <|
 kD p46 (oG g44 false (o_neq g45 (ci 0))) <|
 kD p47 (oPick g44 (kV (.bool true)) g46) <|
 kCond g47 (kD p48 (oBuild [(.str []), (vi 0), (vi 0), (vi 0), (.str [])] bN) <|
 kD0 (oSt 5 g4 g48) <|
 kD p5 (oMov (ci 0)) <|
 kD p6 (oMov (kV (.bool false))) <|
 kRet) <|
 kEnd) <|
 kD p50 (oMov g0) <|
 kD p51 (oMov g14) <|
 kD p52 (oMov g13) <|
 kD p53 (oFld 1 g7) <|
 kD p54 (oLd false 1 g53) <|
 kCall p55 (cF 106 (aC g50 (aC g51 (aC g52 (aC g54 aN))))) <|
 kD p49 (oMov g55) <|
 kD p56 (oExt g49 0) <|
 kD p57 (oExt g49 1) <|
 kD p16 (oMov g56) <|
 kD p17 (oMov g57) <|
 kD p58 (oFld 0 g7) <|
 kD p59 (oLd false 1 g58) <|
 kD p60 (oFld 1 g7) <|
 kD p61 (oLd false 1 g60) <|
 kD p62 (oFld 2 g7) <|
 kD p63 (oLd false 1 g62) <|
 kD p64 (oMov g10) <|
 kD p65 (oMov g16) <|
 kD p66 (oBuild [(.str []), (vi 0), (vi 0), (vi 0), (.str [])] (bC 0 1 g59 (bC 1 1 g61 (bC 2 1 g63 (bC 3 1 g64 (bC 4 1 g65 bN)))))) <|
 kD p67 (oMov g14) <|
 kD p68 (oMov g13) <|
 kD p69 (o_add g67 g68) <|
 kD p70 (oMov g17) <|
 kD p71 (o_eql g70 (ci 0)) <|
 kD0 (oSt 5 g4 g66) <|
 kD p5 (oMov g69) <|
 kD p6 (oMov g71) <|
 kRet,
 (rS [.cell s4 true 5, .tmp s5, .tmp s6])⟩
/-- slices.Clone[[]wimple/api.Asked,wimple/api.Asked] -/
noncomputable def k62 : FnK := ⟨kD p2 (oMov (kV (.ref .nilsl))) <|
 kSeq (kD p3 (oMov g0) <|
 kD p4 (oPs (.eqx false .s (.t s3) (.k (.ref .nilsl)))) <|
 kCond g4 (kD p2 (oMov (kV (.ref .nilsl))) <|
 kRet) <|
 kEnd) <|
 kD p5 (oAs (.bsl false true 0 8 0 [(vi 0), (vi 0), (vi 0), (.str []), (.str []), (.str []), (vi 0), (vi 0)] [])) <|
 kD p6 (oMov g0) <|
 kD p7 (oApp 0 8 g5 g6 (oEs (.app false true 0 8 (.t s5) (.t s6)))) <|
 kD p2 (oMov g7) <|
 kRet,
 (r1 g2)⟩
/-- (*wimple/out.Table).Due -/
noncomputable def k63 : FnK := ⟨kD p4 (oMov (kV (.ref .nilsl))) <|
 kSeq (kD p9 (oMov g0) <|
 kD p10 (oPs (.eqx false .p (.t s9) (.k (.ref .nilptr)))) <|
 kCond g10 (kD p4 (oMov (kV (.ref .nilsl))) <|
 kRet) <|
 kEnd) <|
 kD p5 (oMov (kV (.ref .nilsl))) <|
 kD p6 (oMov (kV (.ref .nilsl))) <|
 kSeq (kD p11 (oMov g0) <|
 kD p12 (oNil g11) <|
 kD p13 (oFld 1 g12) <|
 kD p14 (oLd false 1 g13) <|
 kD p15 (oLenS g14) <|
 kD p16 (oMov (ci 0)) <|
 kBlock 0 <|
 kLoop <|
 kD p17 (o_lss g16 g15) <|
 kSeq (kCond g17 (kEnd) <|
 kExit 0) <|
 kSeq (kBlock 1 <|
 kD p18 (oIdx 8 g14 g16) <|
 kD p19 (oLd true 8 g18) <|
 kD p8 (oAlloc [(vi 0), (vi 0), (vi 0), (.str []), (.str []), (.str []), (vi 0), (vi 0)]) <|
 kD0 (oSt 8 g8 g19) <|
 kD p20 (oFld 7 g8) <|
 kD p21 (oLd false 1 g20) <|
 kD p22 (oMov g1) <|
 kD p23 (o_leq g21 g22) <|
 kCond g23 (kD p24 (oMov g5) <|
 kD p25 (oLd true 8 g8) <|
 kD p26 (oAs (.bsl true true 0 8 1 [(vi 0), (vi 0), (vi 0), (.str []), (.str []), (.str []), (vi 0), (vi 0)] [(0, (.t s25))])) <|
 kD p27 (oEs (.app true true 0 8 (.t s24) (.t s26))) <|
 kD p5 (oMov g27) <|
 kD p28 (oMov g0) <|
 kCall p29 (cF 84 (aC g28 (aC g8 aN))) <|
 kEnd) <|
 kD p30 (oMov g6) <|
 kD p31 (oLd true 8 g8) <|
 kD p32 (oAs (.bsl true true 0 8 1 [(vi 0), (vi 0), (vi 0), (.str []), (.str []), (.str []), (vi 0), (vi 0)] [(0, (.t s31))])) <|
 kD p33 (oEs (.app true true 0 8 (.t s30) (.t s32))) <|
 kD p6 (oMov g33) <|
 kEnd) <|
 kD p34 (o_add g16 (ci 1)) <|
 kD p16 (oMov g34) <|
 kEnd) <|
 kD p35 (oMov g0) <|
 kD p36 (oMov g6) <|
 kD p37 (oNil g35) <|
 kD p38 (oFld 1 g37) <|
 kD0 (oSt 1 g38 g36) <|
 kD p39 (oMov g5) <|
 kD p4 (oMov g39) <|
 kRet,
 (r1 g4)⟩
/-- (*wimple/job.Job).Top -/
noncomputable def k64 : FnK := ⟨kD p2 (oAlloc [(.str []), (vi 0), (.str []), (.str []), (vi 0), (.bool false), (vi 0), (vi 0)]) <|
 kD p3 (oMov (kV (.bool false))) <|
 kSeq (kD p4 (oMov g0) <|
 kD p5 (oPs (.eqx false .p (.t s4) (.k (.ref .nilptr)))) <|
 kD p6 (oMov g5) <|
 kD p7 (oG g6 false (oMov g0)) <|
 kD p8 (oG g6 false (oNil g7)) <|
 kD p9 (oG g6 false (oFld 1 g8)) <|
 kD p10 (oG g6 false (oLd false 1 g9)) <|
 kD p11 (oG g6 false (oLenS g10)) <|
 kD p12 (oG g6 false (o_eql g11 (ci 0))) <|
 kD p13 (oPick g6 (kV (.bool true)) g12) <|
 kCond g13 (kD p14 (oBuild [(.str []), (vi 0), (.str []), (.str []), (vi 0), (.bool false), (vi 0), (vi 0)] bN) <|
 kD0 (oSt 8 g2 g14) <|
 kD p3 (oMov (kV (.bool false))) <|
 kRet) <|
 kEnd) <|
 kD p15 (oMov g0) <|
 kD p16 (oNil g15) <|
 kD p17 (oFld 1 g16) <|
 kD p18 (oLd false 1 g17) <|
 kD p19 (oMov g0) <|
 kD p20 (oNil g19) <|
 kD p21 (oFld 1 g20) <|
 kD p22 (oLd false 1 g21) <|
 kD p23 (oLenS g22) <|
 kD p24 (o_sub g23 (ci 1)) <|
 kD p25 (oIdx 8 g18 g24) <|
 kD p26 (oLd true 8 g25) <|
 kD0 (oSt 8 g2 g26) <|
 kD p3 (oMov (kV (.bool true))) <|
 kRet,
 (rS [.cell s2 true 8, .tmp s3])⟩
/-- (*wimple/iter.Resolver).lost -/
noncomputable def k65 : FnK := ⟨kD p5 (oBox g2) <|
 kD p7 (oMov g0) <|
 kD p8 (oNil g7) <|
 kD p9 (oFld 14 g8) <|
 kD p10 (oLd false 1 g9) <|
 kD p11 (oFld 2 g5) <|
 kD p12 (oLd false 1 g11) <|
 kD p13 (oMov g0) <|
 kD p14 (oNil g13) <|
 kD p15 (oFld 11 g14) <|
 kD p16 (oLd false 1 g15) <|
 kCall p17 (cF 70 (aC g10 (aC g12 (aC g16 aN)))) <|
 kCall p18 (cF 69 (aC g17 aN)) <|
 kD p19 (oLenS g18) <|
 kD p6 (oMov g19) <|
 kD p21 (oLd true 8 g5) <|
 kD p22 (oMov g6) <|
 kD p23 (oPs (.maxI (.t s22) [(.k (vi 1))])) <|
 kD p24 (oMov g0) <|
 kD p25 (oNil g24) <|
 kD p26 (oFld 0 g25) <|
 kD p27 (oFld 7 g26) <|
 kD p28 (oLd false 1 g27) <|
 kCall p29 (cF 107 (aC g21 (aC g23 (aC g28 aN)))) <|
 kD p20 (oMov g29) <|
 kD p30 (oExt g20 0) <|
 kD p31 (oExt g20 1) <|
 kD p32 (oExt g20 2) <|
 kD0 (oSt 8 g5 g30) <|
 kD p33 (oMov g1) <|
 kD p34 (oLd true 8 g5) <|
 kCall p35 (cF 90 (aC g33 (aC g34 aN))) <|
 kEnd,
 (rS [])⟩
/-- wimple/task.New -/
noncomputable def k66 : FnK := ⟨kD p6 (oAlloc [(.str []), (vi 0), (.str []), (.str []), (vi 0), (.bool false), (vi 0), (vi 0)]) <|
 kD p7 (oMov (ci 0)) <|
 kSeq (kD p9 (oMov g0) <|
 kCall p10 (cF 75 (aC g9 aN)) <|
 kD p11 (oNot g10) <|
 kD p12 (oMov g11) <|
 kD p13 (oG g12 false (oMov g2)) <|
 kCall p14 (cG g12 false (cF 75 (aC g13 aN))) <|
 kD p15 (oG g12 false (oNot g14)) <|
 kD p16 (oPick g12 (kV (.bool true)) g15) <|
 kD p17 (oMov g16) <|
 kD p18 (oG g17 false (oMov g2)) <|
 kD p19 (oG g17 false (oMov g0)) <|
 kCall p20 (cG g17 false (cF 108 (aC g18 (aC g19 aN)))) <|
 kD p21 (oG g17 false (oNot g20)) <|
 kD p22 (oPick g17 (kV (.bool true)) g21) <|
 kD p23 (oMov g22) <|
 kD p24 (oG g23 false (oMov g1)) <|
 kD p25 (oG g23 false (o_lss g24 (ci 1))) <|
 kD p26 (oPick g23 (kV (.bool true)) g25) <|
 kD p27 (oMov g26) <|
 kD p28 (oG g27 false (oMov g1)) <|
 kD p29 (oG g27 false (o_gtr g28 (ci 65535))) <|
 kD p30 (oPick g27 (kV (.bool true)) g29) <|
 kCond g30 (kD p31 (oBuild [(.str []), (vi 0), (.str []), (.str []), (vi 0), (.bool false), (vi 0), (vi 0)] bN) <|
 kD0 (oSt 8 g6 g31) <|
 kD p7 (oMov (ci 2200)) <|
 kRet) <|
 kEnd) <|
 kD p32 (oMov g2) <|
 kCall p33 (cF 77 (aC g32 aN)) <|
 kD p8 (oMov g33) <|
 kD p34 (oMov g0) <|
 kCall p35 (cF 77 (aC g34 aN)) <|
 kD p36 (oMov g1) <|
 kD p37 (oMov g8) <|
 kD p38 (oMov g8) <|
 kD p39 (oBuild [(.str []), (vi 0), (.str []), (.str []), (vi 0), (.bool false), (vi 0), (vi 0)] (bC 0 1 g35 (bC 1 1 g36 (bC 2 1 g37 (bC 3 1 g38 bN))))) <|
 kD0 (oSt 8 g6 g39) <|
 kD p7 (oMov (ci 0)) <|
 kRet,
 (rS [.cell s6 true 8, .tmp s7])⟩
/-- (*wimple/iter.Resolver).held -/
noncomputable def k67 : FnK := ⟨kD p6 (oMov (kV (.bool false))) <|
 kD p7 (oMov (kV (.bool false))) <|
 kSeq (kD p15 (oMov g0) <|
 kD p16 (oNil g15) <|
 kD p17 (oFld 12 g16) <|
 kD p18 (oLd false 1 g17) <|
 kD p19 (oMov g2) <|
 kD p20 (oNil g19) <|
 kD p21 (oFld 0 g20) <|
 kD p22 (oLd false 1 g21) <|
 kD p23 (oMov g2) <|
 kD p24 (oNil g23) <|
 kD p25 (oFld 1 g24) <|
 kD p26 (oLd false 1 g25) <|
 kD p27 (oMov g0) <|
 kD p28 (oNil g27) <|
 kD p29 (oFld 11 g28) <|
 kD p30 (oLd false 1 g29) <|
 kD p8 (oAlloc [(.str []), (vi 0), (vi 0), (.ref .nilsl)]) <|
 kCall p31 (cF 109 (aC g18 (aC g22 (aC g26 (aC g30 aN))))) <|
 kD p14 (oMov g31) <|
 kD p32 (oExt g14 0) <|
 kD p33 (oExt g14 1) <|
 kD p34 (oExt g14 2) <|
 kD0 (oSt 4 g8 g32) <|
 kD p9 (oMov g33) <|
 kD p10 (oMov g34) <|
 kD p35 (oMov g10) <|
 kD p36 (o_eql g35 (ci 0)) <|
 kD p37 (oMov g36) <|
 kD p38 (oG g37 true (oMov g9)) <|
 kD p39 (oG g37 true (o_eql g38 (ci 3))) <|
 kD p40 (oPick g37 g39 (kV (.bool false))) <|
 kCond g40 (kD p41 (oMov g0) <|
 kD p42 (oMov g1) <|
 kD p43 (oLd true 4 g8) <|
 kCall p44 (cF 91 (aC g41 (aC g42 (aC g43 aN)))) <|
 kD p6 (oMov (kV (.bool true))) <|
 kD p7 (oMov g44) <|
 kRet) <|
 kEnd) <|
 kSeq (kD p45 (oMov g2) <|
 kD p46 (oNil g45) <|
 kD p47 (oFld 1 g46) <|
 kD p48 (oLd false 1 g47) <|
 kD p49 (o_neq g48 (ci 5)) <|
 kCond g49 (kD p51 (oMov g0) <|
 kD p52 (oNil g51) <|
 kD p53 (oFld 12 g52) <|
 kD p54 (oLd false 1 g53) <|
 kD p55 (oMov g2) <|
 kD p56 (oNil g55) <|
 kD p57 (oFld 0 g56) <|
 kD p58 (oLd false 1 g57) <|
 kD p59 (oMov g0) <|
 kD p60 (oNil g59) <|
 kD p61 (oFld 11 g60) <|
 kD p62 (oLd false 1 g61) <|
 kD p11 (oAlloc [(.str []), (vi 0), (vi 0), (.ref .nilsl)]) <|
 kCall p63 (cF 109 (aC g54 (aC g58 (aC (ci 5) (aC g62 aN))))) <|
 kD p50 (oMov g63) <|
 kD p64 (oExt g50 0) <|
 kD p65 (oExt g50 1) <|
 kD p66 (oExt g50 2) <|
 kD0 (oSt 4 g11 g64) <|
 kD p12 (oMov g65) <|
 kD p13 (oMov g66) <|
 kD p67 (oMov g13) <|
 kD p68 (o_eql g67 (ci 0)) <|
 kD p69 (oMov g68) <|
 kD p70 (oG g69 true (oMov g12)) <|
 kD p71 (oG g69 true (o_eql g70 (ci 3))) <|
 kD p72 (oPick g69 g71 (kV (.bool false))) <|
 kCond g72 (kD p73 (oMov g0) <|
 kD p74 (oMov g1) <|
 kD p75 (oLd true 4 g11) <|
 kCall p76 (cF 93 (aC g73 (aC g74 (aC g75 aN)))) <|
 kD p6 (oMov (kV (.bool true))) <|
 kD p7 (oMov g76) <|
 kRet) <|
 kEnd) <|
 kEnd) <|
 kSeq (kBlock 0 <|
 kD p78 (oMov g0) <|
 kD p79 (oNil g78) <|
 kD p80 (oFld 13 g79) <|
 kD p81 (oLd false 1 g80) <|
 kD p82 (oMov g2) <|
 kD p83 (oNil g82) <|
 kD p84 (oFld 0 g83) <|
 kD p85 (oLd false 1 g84) <|
 kD p86 (oMov g0) <|
 kD p87 (oNil g86) <|
 kD p88 (oFld 11 g87) <|
 kD p89 (oLd false 1 g88) <|
 kCall p90 (cF 110 (aC g81 (aC g85 (aC g89 aN)))) <|
 kD p77 (oMov g90) <|
 kCond g77 (kD p91 (oMov g0) <|
 kD p92 (oMov g1) <|
 kCall p93 (cF 95 (aC g91 (aC g92 (aC (ci 3) aN)))) <|
 kD p6 (oMov (kV (.bool true))) <|
 kD p7 (oMov g93) <|
 kRet) <|
 kD p95 (oMov g0) <|
 kD p96 (oNil g95) <|
 kD p97 (oFld 13 g96) <|
 kD p98 (oLd false 1 g97) <|
 kD p99 (oMov g2) <|
 kD p100 (oNil g99) <|
 kD p101 (oFld 0 g100) <|
 kD p102 (oLd false 1 g101) <|
 kD p103 (oMov g2) <|
 kD p104 (oNil g103) <|
 kD p105 (oFld 1 g104) <|
 kD p106 (oLd false 1 g105) <|
 kD p107 (oMov g0) <|
 kD p108 (oNil g107) <|
 kD p109 (oFld 11 g108) <|
 kD p110 (oLd false 1 g109) <|
 kCall p111 (cF 111 (aC g98 (aC g102 (aC g106 (aC g110 aN))))) <|
 kD p94 (oMov g111) <|
 kCond g94 (kD p112 (oMov g0) <|
 kD p113 (oMov g1) <|
 kCall p114 (cF 95 (aC g112 (aC g113 (aC (ci 0) aN)))) <|
 kD p6 (oMov (kV (.bool true))) <|
 kD p7 (oMov g114) <|
 kRet) <|
 kEnd) <|
 kD p6 (oMov (kV (.bool false))) <|
 kD p7 (oMov (kV (.bool false))) <|
 kRet,
 (r2 g6 g7)⟩
/-- (*wimple/iter.Resolver).place -/
noncomputable def k68 : FnK := ⟨kSeq (kD p7 (oMov g0) <|
 kD p8 (oNil g7) <|
 kD p9 (oFld 14 g8) <|
 kD p10 (oLd false 1 g9) <|
 kD p11 (oMov g2) <|
 kD p12 (oNil g11) <|
 kD p13 (oFld 0 g12) <|
 kD p14 (oLd false 1 g13) <|
 kD p15 (oMov g0) <|
 kD p16 (oNil g15) <|
 kD p17 (oFld 11 g16) <|
 kD p18 (oLd false 1 g17) <|
 kCall p19 (cF 112 (aC g10 (aC g14 (aC g18 aN)))) <|
 kD p6 (oMov g19) <|
 kD p20 (oMov g6) <|
 kD p21 (oMov g2) <|
 kD p22 (oNil g21) <|
 kD p23 (oFld 2 g22) <|
 kD p24 (oLd false 1 g23) <|
 kCall p25 (cF 113 (aC g20 (aC g24 aN))) <|
 kD p26 (oNot g25) <|
 kCond g26 (kD p27 (oMov g2) <|
 kD p28 (oMov g2) <|
 kD p29 (oMov g2) <|
 kD p30 (oMov g2) <|
 kD p31 (oMov g6) <|
 kD p32 (oMov g6) <|
 kD p33 (oNil g27) <|
 kD p34 (oFld 2 g33) <|
 kD0 (oSt 1 g34 g31) <|
 kD p35 (oNil g28) <|
 kD p36 (oFld 3 g35) <|
 kD0 (oSt 1 g36 g32) <|
 kD p37 (oNil g29) <|
 kD p38 (oFld 6 g37) <|
 kD0 (oSt 1 g38 (ci 0)) <|
 kD p39 (oNil g30) <|
 kD p40 (oFld 7 g39) <|
 kD0 (oSt 1 g40 (ci 0)) <|
 kEnd) <|
 kEnd) <|
 kD p41 (oMov g1) <|
 kD p42 (oMov g2) <|
 kD p43 (oNil g42) <|
 kD p44 (oLd true 8 g43) <|
 kCall p45 (cF 90 (aC g41 (aC g44 aN))) <|
 kEnd,
 (rS [])⟩
/-- wimple/serve.Addrs -/
noncomputable def k69 : FnK := ⟨kD p2 (oMov (kV (.ref .nilsl))) <|
 kD p7 (oAs .mkm) <|
 kD p3 (oMov g7) <|
 kD p4 (oMov (kV (.ref .nilsl))) <|
 kSeq (kD p8 (oMov g0) <|
 kD p9 (oLenS g8) <|
 kD p10 (oMov (ci 0)) <|
 kBlock 0 <|
 kLoop <|
 kD p11 (o_lss g10 g9) <|
 kSeq (kCond g11 (kEnd) <|
 kExit 0) <|
 kSeq (kBlock 1 <|
 kD p12 (oIdx 5 g8 g10) <|
 kD p13 (oLd true 5 g12) <|
 kD p6 (oAlloc [(.str []), (.str []), (vi 0), (.str []), (vi 0)]) <|
 kD0 (oSt 5 g6 g13) <|
 kD p14 (oMov g3) <|
 kD p15 (oFld 2 g6) <|
 kD p16 (oLd false 1 g15) <|
 kD p17 (oRs (.lkp ⟨false, [(.int .i64)]⟩ false (.bool false) (.t s14) (.t s16))) <|
 kD p18 (oNot g17) <|
 kCond g18 (kD p19 (oMov g3) <|
 kD p20 (oFld 2 g6) <|
 kD p21 (oLd false 1 g20) <|
 kD0 (oEs (.mup ⟨false, [(.int .i64)]⟩ (.t s19) (.t s21) (.k (.bool true)))) <|
 kD p22 (oMov g4) <|
 kD p23 (oFld 2 g6) <|
 kD p24 (oLd false 1 g23) <|
 kD p25 (oBsl1 0 1 1 (lC g24 lN)) <|
 kD p26 (oApp 0 1 g22 g25 (oEs (.app false false 0 1 (.t s22) (.t s25)))) <|
 kD p4 (oMov g26) <|
 kEnd) <|
 kEnd) <|
 kD p27 (o_add g10 (ci 1)) <|
 kD p10 (oMov g27) <|
 kEnd) <|
 kD p28 (oMov g4) <|
 kD p2 (oMov g28) <|
 kRet,
 (r1 g2)⟩
/-- (*wimple/cuts.Cuts).Bindings -/
noncomputable def k70 : FnK := ⟨kD p6 (oMov (kV (.ref .nilsl))) <|
 kSeq (kD p8 (oMov g0) <|
 kD p9 (oPs (.eqx false .p (.t s8) (.k (.ref .nilptr)))) <|
 kCond g9 (kD p6 (oMov (kV (.ref .nilsl))) <|
 kRet) <|
 kEnd) <|
 kSeq (kD p10 (oMov g1) <|
 kCall p11 (cF 113 (aC g10 (aC (kV (.str [0])) aN))) <|
 kCond g11 (kD p12 (oMov g0) <|
 kD p13 (oNil g12) <|
 kD p14 (oFld 0 g13) <|
 kD p15 (oFld 1 g14) <|
 kD p16 (oLd false 1 g15) <|
 kCall p17 (cF 114 (aC g16 aN)) <|
 kD p6 (oMov g17) <|
 kRet) <|
 kEnd) <|
 kSeq (kD p18 (oMov g0) <|
 kD p19 (oMov g1) <|
 kD p20 (oMov g2) <|
 kCall p21 (cF 115 (aC g18 (aC g19 (aC g20 aN)))) <|
 kD p7 (oMov g21) <|
 kD p22 (oMov g7) <|
 kD p23 (oPs (.eqx true .p (.t s22) (.k (.ref .nilptr)))) <|
 kCond g23 (kD p24 (oMov g7) <|
 kD p25 (oMov g2) <|
 kCall p26 (cF 116 (aC g24 (aC g25 aN))) <|
 kD p6 (oMov g26) <|
 kRet) <|
 kEnd) <|
 kD p6 (oMov (kV (.ref .nilsl))) <|
 kRet,
 (r1 g6)⟩
/-- (*wimple/iter.Resolver).ask -/
noncomputable def k71 : FnK := ⟨kD p8 (oMov (kV (.bool false))) <|
 kSeq (kD p15 (oMov g1) <|
 kCall p16 (cF 117 (aC g15 aN)) <|
 kD p17 (oNot g16) <|
 kCond g17 (kD p18 (oMov g0) <|
 kD p19 (oMov g1) <|
 kCall p20 (cF 118 (aC g18 (aC g19 (aC (ci 2) aN)))) <|
 kD p8 (oMov g20) <|
 kRet) <|
 kEnd) <|
 kD p22 (oMov g0) <|
 kD p23 (oNil g22) <|
 kD p24 (oFld 15 g23) <|
 kD p25 (oLd false 1 g24) <|
 kCall p26 (cF 119 (aC g25 aN)) <|
 kD p21 (oMov g26) <|
 kD p27 (oExt g21 0) <|
 kD p28 (oExt g21 1) <|
 kD p9 (oMov g27) <|
 kD p10 (oMov g28) <|
 kD p30 (oMov g2) <|
 kD p31 (oNil g30) <|
 kD p32 (oLd true 8 g31) <|
 kD p33 (oMov g0) <|
 kD p34 (oNil g33) <|
 kD p35 (oFld 0 g34) <|
 kD p36 (oFld 8 g35) <|
 kD p37 (oLd false 1 g36) <|
 kD p38 (oMov g0) <|
 kD p39 (oNil g38) <|
 kD p40 (oFld 0 g39) <|
 kD p41 (oFld 9 g40) <|
 kD p42 (oLd false 1 g41) <|
 kD p11 (oAlloc [(.str []), (vi 0)]) <|
 kCall p43 (cF 120 (aC g32 (aC g37 (aC g42 aN)))) <|
 kD p29 (oMov g43) <|
 kD p44 (oExt g29 0) <|
 kD p45 (oExt g29 1) <|
 kD0 (oSt 2 g11 g44) <|
 kD p12 (oMov g45) <|
 kSeq (kD p46 (oMov g10) <|
 kD p47 (o_neq g46 (ci 0)) <|
 kD p48 (oMov g47) <|
 kD p49 (oG g48 false (oMov g12)) <|
 kD p50 (oG g48 false (o_neq g49 (ci 0))) <|
 kD p51 (oPick g48 (kV (.bool true)) g50) <|
 kCond g51 (kD p52 (oMov g0) <|
 kD p53 (oMov g1) <|
 kCall p54 (cF 118 (aC g52 (aC g53 (aC (ci 2) aN)))) <|
 kD p8 (oMov g54) <|
 kRet) <|
 kEnd) <|
 kD p56 (oMov g9) <|
 kD p57 (oLd true 2 g11) <|
 kCall p58 (cF 121 (aC g56 (aC g57 aN))) <|
 kD p55 (oMov g58) <|
 kD p59 (oExt g55 0) <|
 kD p60 (oExt g55 1) <|
 kD p13 (oMov g59) <|
 kD p14 (oMov g60) <|
 kD p61 (oMov g0) <|
 kD p62 (oMov g0) <|
 kD p63 (oNil g62) <|
 kD p64 (oFld 19 g63) <|
 kD p65 (oLd false 1 g64) <|
 kD p66 (oMov g3) <|
 kD p67 (oMov g13) <|
 kD p68 (oBuild [(vi 0), (.str [])] (bC 0 1 g66 (bC 1 1 g67 bN))) <|
 kD p69 (oAs (.bsl false true 0 2 1 [(vi 0), (.str [])] [(0, (.t s68))])) <|
 kD p70 (oApp 0 2 g65 g69 (oEs (.app false true 0 2 (.t s65) (.t s69)))) <|
 kD p71 (oNil g61) <|
 kD p72 (oFld 19 g71) <|
 kD0 (oSt 1 g72 g70) <|
 kD p73 (oMov g0) <|
 kD p74 (oNil g73) <|
 kD p75 (oFld 16 g74) <|
 kD p76 (oLd false 1 g75) <|
 kD p77 (oMov g1) <|
 kD p78 (oNil g77) <|
 kD p79 (oFld 0 g78) <|
 kD p80 (oLd false 1 g79) <|
 kD p81 (oMov g9) <|
 kD p82 (oMov g3) <|
 kD p83 (oMov g2) <|
 kD p84 (oNil g83) <|
 kD p85 (oFld 2 g84) <|
 kD p86 (oLd false 1 g85) <|
 kD p87 (oMov g2) <|
 kD p88 (oNil g87) <|
 kD p89 (oFld 0 g88) <|
 kD p90 (oLd false 1 g89) <|
 kD p91 (oLd true 2 g11) <|
 kD p92 (oMov g0) <|
 kD p93 (oNil g92) <|
 kD p94 (oFld 11 g93) <|
 kD p95 (oLd false 1 g94) <|
 kD p96 (oMov g0) <|
 kD p97 (oNil g96) <|
 kD p98 (oFld 0 g97) <|
 kD p99 (oFld 6 g98) <|
 kD p100 (oLd false 1 g99) <|
 kD p101 (o_add g95 g100) <|
 kD p102 (oBuild [(vi 0), (vi 0), (vi 0), (.str []), (.str []), (.str []), (vi 0), (vi 0)] (bC 0 1 g80 (bC 1 1 g81 (bC 2 1 g82 (bC 3 1 g86 (bC 4 1 g90 (bC 5 2 g91 (bC 7 1 g101 bN)))))))) <|
 kCall p103 (cF 122 (aC g76 (aC g102 aN))) <|
 kD p8 (oMov (kV (.bool true))) <|
 kRet,
 (r1 g8)⟩
/-- (*wimple/iter.Resolver).push -/
noncomputable def k72 : FnK := ⟨kD p6 (oMov (kV (.bool false))) <|
 kSeq (kD p11 (oMov g1) <|
 kD p13 (oMov g0) <|
 kD p14 (oNil g13) <|
 kD p15 (oFld 0 g14) <|
 kD p16 (oFld 4 g15) <|
 kD p17 (oLd false 1 g16) <|
 kCall p12 (cF 123 (aC g11 aN)) <|
 kChk g17 (oLd false 1 g16) <|
 kD p18 (o_gtr g12 g17) <|
 kCond g18 (kD p6 (oMov (kV (.bool false))) <|
 kRet) <|
 kEnd) <|
 kSeq (kD p19 (oMov g0) <|
 kD p20 (oNil g19) <|
 kD p21 (oFld 14 g20) <|
 kD p22 (oLd false 1 g21) <|
 kD p23 (oMov g2) <|
 kD p24 (oNil g23) <|
 kD p25 (oFld 2 g24) <|
 kD p26 (oLd false 1 g25) <|
 kD p27 (oMov g0) <|
 kD p28 (oNil g27) <|
 kD p29 (oFld 11 g28) <|
 kD p30 (oLd false 1 g29) <|
 kD p32 (oMov g0) <|
 kD p33 (oNil g32) <|
 kD p34 (oFld 14 g33) <|
 kD p35 (oLd false 1 g34) <|
 kD p36 (oMov g2) <|
 kD p37 (oNil g36) <|
 kD p38 (oFld 2 g37) <|
 kD p39 (oLd false 1 g38) <|
 kD p40 (oMov g0) <|
 kD p41 (oNil g40) <|
 kD p42 (oFld 11 g41) <|
 kD p43 (oLd false 1 g42) <|
 kD p47 (oMov (ci 0)) <|
 kCall p31 (cF 125 (aC g22 (aC g26 (aC g30 aN)))) <|
 kChk g43 (oLd false 1 g42) <|
 kChk g39 (oLd false 1 g38) <|
 kChk g35 (oLd false 1 g34) <|
 kCall p44 (cF 70 (aC g35 (aC g39 (aC g43 aN)))) <|
 kCall p45 (cF 124 (aC g31 (aC g44 aN))) <|
 kD p46 (oLenS g45) <|
 kBlock 0 <|
 kLoop <|
 kD p48 (o_lss g47 g46) <|
 kSeq (kCond g48 (kEnd) <|
 kExit 0) <|
 kSeq (kBlock 1 <|
 kD p49 (oIdx 1 g45 g47) <|
 kD p50 (oLd false 1 g49) <|
 kD p8 (oMov g50) <|
 kD p51 (oMov g1) <|
 kD p52 (oMov g8) <|
 kCall p53 (cF 126 (aC g51 (aC g52 aN))) <|
 kD p54 (oNot g53) <|
 kCond g54 (kD p56 (oMov g8) <|
 kCall p57 (cF 66 (aC g56 (aC (ci 1) (aC (kV (.str [0])) aN)))) <|
 kD p55 (oMov g57) <|
 kD p58 (oExt g55 0) <|
 kD p59 (oExt g55 1) <|
 kD p9 (oAlloc [(.str []), (vi 0), (.str []), (.str []), (vi 0), (.bool false), (vi 0), (vi 0)]) <|
 kD0 (oSt 8 g9 g58) <|
 kD p10 (oMov g59) <|
 kD p60 (oMov g1) <|
 kD p61 (oLd true 8 g9) <|
 kCall p62 (cF 127 (aC g60 (aC g61 aN))) <|
 kD p6 (oMov g62) <|
 kRet) <|
 kEnd) <|
 kD p63 (o_add g47 (ci 1)) <|
 kD p47 (oMov g63) <|
 kEnd) <|
 kD p6 (oMov (kV (.bool false))) <|
 kRet,
 (r1 g6)⟩
/-- (*wimple/iter.Resolver).fails -/
noncomputable def k73 : FnK := ⟨kD p4 (oMov (kV (.bool false))) <|
 kD p5 (oMov g0) <|
 kD p6 (oMov g1) <|
 kCall p7 (cF 128 (aC g5 (aC g6 (aC (ci 2) aN)))) <|
 kD p4 (oMov g7) <|
 kRet,
 (r1 g4)⟩
/-- wimple/job.in -/
noncomputable def k74 : FnK := ⟨kD p6 (oMov (kV (.bool false))) <|
 kD p7 (oMov g0) <|
 kD p8 (oMov g1) <|
 kD p9 (o_geq g7 g8) <|
 kD p10 (oMov g9) <|
 kD p11 (oG g10 true (oMov g0)) <|
 kD p12 (oG g10 true (oMov g2)) <|
 kD p13 (oG g10 true (o_leq g11 g12)) <|
 kD p14 (oPick g10 g13 (kV (.bool false))) <|
 kD p6 (oMov g14) <|
 kRet,
 (r1 g6)⟩
/-- wimple/name.May -/
noncomputable def k75 : FnK := ⟨kD p2 (oMov (kV (.bool false))) <|
 kD p6 (oMov g0) <|
 kCall p7 (cF 129 (aC g6 aN)) <|
 kD p5 (oMov g7) <|
 kD p8 (oExt g5 0) <|
 kD p9 (oExt g5 1) <|
 kD p3 (oMov g8) <|
 kD p4 (oMov g9) <|
 kD p10 (oMov g4) <|
 kD p2 (oMov g10) <|
 kRet,
 (r1 g2)⟩
/-- wimple/cuts.addr -/
noncomputable def k76 : FnK := ⟨kD p2 (oMov (kV (.bool false))) <|
 kD p3 (oMov g0) <|
 kD p4 (o_geq g3 (ci 0)) <|
 kD p5 (oMov g4) <|
 kD p6 (oG g5 true (oMov g0)) <|
 kD p7 (oG g5 true (o_leq g6 (ci 4294967295))) <|
 kD p8 (oPick g5 g7 (kV (.bool false))) <|
 kD p2 (oMov g8) <|
 kRet,
 (r1 g2)⟩
/-- wimple/rel.Fold -/
noncomputable def k77 : FnK := ⟨kD p2 (oMov (kV (.str []))) <|
 kD p9 (oMov g0) <|
 kCall p10 (cF 130 (aC g9 aN)) <|
 kD p8 (oMov g10) <|
 kD p11 (oExt g8 0) <|
 kD p12 (oExt g8 1) <|
 kD p3 (oMov g11) <|
 kD p4 (oMov g12) <|
 kSeq (kD p13 (oMov g4) <|
 kD p14 (oNot g13) <|
 kCond g14 (kD p2 (oMov (kV (.str []))) <|
 kRet) <|
 kEnd) <|
 kD p5 (oAllocT 257 [(.ref .nilptr), (.ref .nilsl)]) <|
 kSeq (kD p15 (oMov g3) <|
 kD p16 (oLenS g15) <|
 kD p17 (oMov (ci 0)) <|
 kBlock 0 <|
 kLoop <|
 kD p18 (o_lss g17 g16) <|
 kSeq (kCond g18 (kEnd) <|
 kExit 0) <|
 kSeq (kBlock 1 <|
 kD p19 (oIdx 1 g15 g17) <|
 kD p20 (oLd false 1 g19) <|
 kD p7 (oMov g20) <|
 kD p21 (oMov g7) <|
 kD p22 (oLenT g21) <|
 kD p23 (oCvti .u8 g22) <|
 kCall p24 (cF 131 (aC g5 (aC g23 aN))) <|
 kD p25 (oMov g7) <|
 kCall p26 (cF 133 (aC g25 aN)) <|
 kCall p27 (cF 132 (aC g5 (aC g26 aN))) <|
 kEnd) <|
 kD p28 (o_add g17 (ci 1)) <|
 kD p17 (oMov g28) <|
 kEnd) <|
 kCall p29 (cF 132 (aC g5 (aC (kV (.str [0])) aN))) <|
 kCall p30 (cF 134 (aC g5 aN)) <|
 kD p2 (oMov g30) <|
 kRet,
 (r1 g2)⟩
/-- slices.Contains[[]string,string] -/
noncomputable def k78 : FnK := ⟨kD p4 (oMov (kV (.bool false))) <|
 kD p5 (oMov g0) <|
 kD p6 (oMov g1) <|
 kCall p7 (cF 135 (aC g5 (aC g6 aN))) <|
 kD p8 (o_geq g7 (ci 0)) <|
 kD p4 (oMov g8) <|
 kRet,
 (r1 g4)⟩
/-- wimple/wire.Get -/
noncomputable def k79 : FnK := ⟨kD p2 (oAlloc [(vi 0), (.bool false), (vi 0), (.bool false), (.bool false), (.bool false), (.bool false), (vi 0), (vi 0), (.ref .nilsl), (.ref .nilsl), (.ref .nilsl), (.ref .nilsl)]) <|
 kD p3 (oMov (ci 0)) <|
 kSeq (kD p11 (oMov g0) <|
 kD p12 (oLenT g11) <|
 kD p13 (o_gtr g12 (ci 4096)) <|
 kCond g13 (kD p14 (oBuild [(vi 0), (.bool false), (vi 0), (.bool false), (.bool false), (.bool false), (.bool false), (vi 0), (vi 0), (.ref .nilsl), (.ref .nilsl), (.ref .nilsl), (.ref .nilsl)] bN) <|
 kD0 (oSt 13 g2 g14) <|
 kD p3 (oMov (ci 701)) <|
 kRet) <|
 kEnd) <|
 kD p16 (oMov g0) <|
 kCall p17 (cF 136 (aC g16 aN)) <|
 kD p15 (oMov g17) <|
 kD p18 (oExt g15 0) <|
 kD p19 (oExt g15 1) <|
 kD p20 (oExt g15 2) <|
 kD p4 (oAlloc [(vi 0), (.bool false), (vi 0), (.bool false), (.bool false), (.bool false), (.bool false), (vi 0), (vi 0)]) <|
 kD p5 (oAlloc [(vi 0), (vi 0), (vi 0), (vi 0)]) <|
 kD0 (oSt 9 g4 g18) <|
 kD0 (oSt 4 g5 g19) <|
 kD p6 (oMov g20) <|
 kSeq (kD p21 (oMov g6) <|
 kD p22 (o_neq g21 (ci 0)) <|
 kCond g22 (kD p23 (oBuild [(vi 0), (.bool false), (vi 0), (.bool false), (.bool false), (.bool false), (.bool false), (vi 0), (vi 0), (.ref .nilsl), (.ref .nilsl), (.ref .nilsl), (.ref .nilsl)] bN) <|
 kD0 (oSt 13 g2 g23) <|
 kD p3 (oMov (ci 700)) <|
 kRet) <|
 kEnd) <|
 kD p24 (oMov g0) <|
 kD p25 (oBuild [(.str []), (vi 0), (.bool false)] (bC 0 1 g24 (bC 1 1 (ci 12) bN))) <|
 kD p26 (oBox g25) <|
 kD p7 (oMov g26) <|
 kD p27 (oLd true 9 g4) <|
 kD p28 (oMov g7) <|
 kD p29 (oIdxa 4 1 g5 (ci 0)) <|
 kD p30 (oLd false 1 g29) <|
 kD p8 (oAlloc [(vi 0), (.bool false), (vi 0), (.bool false), (.bool false), (.bool false), (.bool false), (vi 0), (vi 0), (.ref .nilsl), (.ref .nilsl), (.ref .nilsl), (.ref .nilsl)]) <|
 kCall p31 (cF 137 (aC g28 (aC g30 (aC (kF 138) aN)))) <|
 kChk g27 (oLd true 9 g4) <|
 kD p32 (oBuild [(vi 0), (.bool false), (vi 0), (.bool false), (.bool false), (.bool false), (.bool false), (vi 0), (vi 0), (.ref .nilsl), (.ref .nilsl), (.ref .nilsl), (.ref .nilsl)] (bC 0 9 g27 (bC 9 1 g31 bN))) <|
 kD0 (oSt 13 g8 g32) <|
 kSeq (kD p33 (oFld 10 g8) <|
 kD p34 (oFld 11 g8) <|
 kD p35 (oFld 12 g8) <|
 kD p36 (oBuild [(.ref .nilptr), (.ref .nilptr), (.ref .nilptr)] (bC 0 1 g33 (bC 1 1 g34 (bC 2 1 g35 bN)))) <|
 kD p37 (oMov (ci 0)) <|
 kBlock 0 <|
 kLoop <|
 kD p38 (o_lss g37 (ci 3)) <|
 kSeq (kCond g38 (kEnd) <|
 kExit 0) <|
 kSeq (kBlock 1 <|
 kD p39 (oMov g37) <|
 kD p40 (oIdxv false 3 1 g36 g37) <|
 kD p9 (oMov g39) <|
 kD p10 (oMov g40) <|
 kD p41 (oMov g10) <|
 kD p42 (oMov g7) <|
 kD p43 (oMov g9) <|
 kD p44 (o_add (ci 1) g43) <|
 kD p45 (oIdxa 4 1 g5 g44) <|
 kD p46 (oLd false 1 g45) <|
 kCall p47 (cF 139 (aC g42 (aC g46 (aC (kF 140) aN)))) <|
 kD p48 (oNil g41) <|
 kD0 (oSt 1 g48 g47) <|
 kEnd) <|
 kD p49 (o_add g37 (ci 1)) <|
 kD p37 (oMov g49) <|
 kEnd) <|
 kSeq (kD p50 (oMov g7) <|
 kD p51 (oNil g50) <|
 kD p52 (oFld 2 g51) <|
 kD p53 (oLd false 1 g52) <|
 kD p54 (oMov g53) <|
 kD p55 (oG g54 false (oMov g7)) <|
 kD p56 (oG g54 false (oNil g55)) <|
 kD p57 (oG g54 false (oFld 1 g56)) <|
 kD p58 (oG g54 false (oLd false 1 g57)) <|
 kD p59 (oG g54 false (oMov g0)) <|
 kD p60 (oG g54 false (oLenT g59)) <|
 kD p61 (oG g54 false (o_neq g58 g60)) <|
 kD p62 (oPick g54 (kV (.bool true)) g61) <|
 kCond g62 (kD p63 (oBuild [(vi 0), (.bool false), (vi 0), (.bool false), (.bool false), (.bool false), (.bool false), (vi 0), (vi 0), (.ref .nilsl), (.ref .nilsl), (.ref .nilsl), (.ref .nilsl)] bN) <|
 kD0 (oSt 13 g2 g63) <|
 kD p3 (oMov (ci 700)) <|
 kRet) <|
 kEnd) <|
 kD p64 (oLd true 13 g8) <|
 kD0 (oSt 13 g2 g64) <|
 kD p3 (oMov (ci 0)) <|
 kRet,
 (rS [.cell s2 true 13, .tmp s3])⟩
/-- slices.IndexFunc[[]wimple/api.Asked,wimple/api.Asked] -/
noncomputable def k80 : FnK := ⟨kD p4 (oMov (ci 0)) <|
 kSeq (kD p6 (oMov g0) <|
 kD p7 (oLenS g6) <|
 kD p8 (oMov (ci 0)) <|
 kBlock 0 <|
 kLoop <|
 kD p9 (o_lss g8 g7) <|
 kSeq (kCond g9 (kEnd) <|
 kExit 0) <|
 kSeq (kBlock 1 <|
 kD p10 (oMov g8) <|
 kD p5 (oMov g10) <|
 kD p11 (oMov g1) <|
 kD p12 (oMov g0) <|
 kD p13 (oMov g5) <|
 kD p14 (oIdx 8 g12 g13) <|
 kD p15 (oLd true 8 g14) <|
 kCall p16 (cV g11 (aC g15 aN)) <|
 kCond g16 (kD p17 (oMov g5) <|
 kD p4 (oMov g17) <|
 kRet) <|
 kEnd) <|
 kD p18 (o_add g8 (ci 1)) <|
 kD p8 (oMov g18) <|
 kEnd) <|
 kD p4 (oMov (kV (.int .i64 (.c (.negSucc 0))))) <|
 kRet,
 (r1 g4)⟩
/-- (*wimple/out.Table).Take$1 -/
noncomputable def k81 : FnK := ⟨kD p2 (oBox g0) <|
 kD p3 (oMov (kV (.bool false))) <|
 kD p5 (oLd true 4 g1) <|
 kCall p4 (cF 82 (aC g2 aN)) <|
 kChk g5 (oLd true 4 g1) <|
 kD p6 (oPs (.eqa false [(.int .i64), (.int .i64), .str, (.int .i64)] (.t s4) (.t s5))) <|
 kD p3 (oMov g6) <|
 kRet,
 (r1 g3)⟩
/-- wimple/out.keyOf -/
noncomputable def k82 : FnK := ⟨kD p2 (oAlloc [(vi 0), (vi 0), (.str []), (vi 0)]) <|
 kD p3 (oMov g0) <|
 kD p4 (oNil g3) <|
 kD p5 (oFld 2 g4) <|
 kD p6 (oLd false 1 g5) <|
 kD p7 (oMov g0) <|
 kD p8 (oNil g7) <|
 kD p9 (oFld 1 g8) <|
 kD p10 (oLd false 1 g9) <|
 kD p11 (oMov g0) <|
 kD p12 (oNil g11) <|
 kD p13 (oFld 5 g12) <|
 kD p14 (oFld 0 g13) <|
 kD p15 (oLd false 1 g14) <|
 kD p17 (oMov g0) <|
 kD p18 (oNil g17) <|
 kD p19 (oFld 5 g18) <|
 kD p20 (oFld 1 g19) <|
 kD p21 (oLd false 1 g20) <|
 kCall p16 (cF 77 (aC g15 aN)) <|
 kChk g21 (oLd false 1 g20) <|
 kChk g10 (oLd false 1 g9) <|
 kChk g6 (oLd false 1 g5) <|
 kD p22 (oBuild [(vi 0), (vi 0), (.str []), (vi 0)] (bC 0 1 g6 (bC 1 1 g10 (bC 2 1 g16 (bC 3 1 g21 bN))))) <|
 kD0 (oSt 4 g2 g22) <|
 kRet,
 (rS [.cell s2 true 4])⟩
/-- slices.Delete[[]wimple/api.Asked,wimple/api.Asked] -/
noncomputable def k83 : FnK := ⟨kD p6 (oMov (kV (.ref .nilsl))) <|
 kD p8 (oMov g0) <|
 kD p9 (oMov g1) <|
 kD p10 (oMov g2) <|
 kD p11 (oMov g0) <|
 kD p12 (oLenS g11) <|
 kD p13 (oPs (.slc 8 (.t s8) (some (.t s9)) (some (.t s10)) (some (.t s12)))) <|
 kSeq (kD p14 (oMov g1) <|
 kD p15 (oMov g2) <|
 kD p16 (o_eql g14 g15) <|
 kCond g16 (kD p17 (oMov g0) <|
 kD p6 (oMov g17) <|
 kRet) <|
 kEnd) <|
 kD p18 (oMov g0) <|
 kD p19 (oLenS g18) <|
 kD p7 (oMov g19) <|
 kD p20 (oMov g0) <|
 kD p21 (oMov g1) <|
 kD p22 (oSlc 8 g20 none (some g21) (oPs (.slc 8 (.t s20) none (some (.t s21)) none))) <|
 kD p23 (oMov g0) <|
 kD p24 (oMov g2) <|
 kD p25 (oSlc 8 g23 (some g24) none (oPs (.slc 8 (.t s23) (some (.t s24)) none none))) <|
 kD p26 (oApp 0 8 g22 g25 (oEs (.app false true 0 8 (.t s22) (.t s25)))) <|
 kD p0 (oMov g26) <|
 kD p27 (oMov g0) <|
 kD p28 (oMov g0) <|
 kD p29 (oLenS g28) <|
 kD p30 (oMov g7) <|
 kD p31 (oSlc 8 g27 (some g29) (some g30) (oPs (.slc 8 (.t s27) (some (.t s29)) (some (.t s30)) none))) <|
 kD0 (oEs (.clr 8 [(vi 0), (vi 0), (vi 0), (.str []), (.str []), (.str []), (vi 0), (vi 0)] (.t s31))) <|
 kD p32 (oMov g0) <|
 kD p6 (oMov g32) <|
 kRet,
 (r1 g6)⟩
/-- (*wimple/out.Table).gone -/
noncomputable def k84 : FnK := ⟨kD p5 (oMov g1) <|
 kCall p6 (cF 82 (aC g5 aN)) <|
 kD p4 (oAlloc [(vi 0), (vi 0), (.str []), (vi 0)]) <|
 kD0 (oSt 4 g4 g6) <|
 kD p7 (oMov g0) <|
 kD p8 (oNil g7) <|
 kD p9 (oFld 2 g8) <|
 kD p10 (oLd false 1 g9) <|
 kD p11 (oLd true 4 g4) <|
 kD p12 (oRs (.lkp ⟨true, [(.int .i64), (.int .i64), .str, (.int .i64)]⟩ false (vi 0) (.t s10) (.t s11))) <|
 kD p13 (o_sub g12 (ci 1)) <|
 kD p14 (oEs (.ment ⟨true, [(.int .i64), (.int .i64), .str, (.int .i64)]⟩ (vi 0) (.t s10) (.t s11))) <|
 kChk g12 (oRs (.lkp ⟨true, [(.int .i64), (.int .i64), .str, (.int .i64)]⟩ false (vi 0) (.t s10) (.t s11))) <|
 kD p15 (oExt g14 1) <|
 kD0 (oEs (.mst (.t s10) (.t s15) (.t s13))) <|
 kD p16 (oMov g0) <|
 kD p17 (oNil g16) <|
 kD p18 (oFld 2 g17) <|
 kD p19 (oLd false 1 g18) <|
 kD p20 (oLd true 4 g4) <|
 kD p21 (oRs (.lkp ⟨true, [(.int .i64), (.int .i64), .str, (.int .i64)]⟩ false (vi 0) (.t s19) (.t s20))) <|
 kD p22 (o_eql g21 (ci 0)) <|
 kCond g22 (kD p23 (oMov g0) <|
 kD p24 (oNil g23) <|
 kD p25 (oFld 2 g24) <|
 kD p26 (oLd false 1 g25) <|
 kD p27 (oLd true 4 g4) <|
 kD0 (oEs (.del ⟨true, [(.int .i64), (.int .i64), .str, (.int .i64)]⟩ (.t s26) (.t s27))) <|
 kEnd) <|
 kEnd,
 (rS [])⟩
/-- wimple/bail.keep -/
noncomputable def k85 : FnK := ⟨kD p4 (oMov (kV (.ref .nilsl))) <|
 kD p5 (oMov (kV (.ref .nilsl))) <|
 kSeq (kD p8 (oMov g0) <|
 kD p9 (oLenS g8) <|
 kD p10 (oMov (ci 0)) <|
 kBlock 0 <|
 kLoop <|
 kD p11 (o_lss g10 g9) <|
 kSeq (kCond g11 (kEnd) <|
 kExit 0) <|
 kSeq (kBlock 1 <|
 kD p12 (oIdx 5 g8 g10) <|
 kD p13 (oLd true 5 g12) <|
 kD p7 (oAlloc [(.str []), (vi 0), (vi 0), (vi 0), (.str [])]) <|
 kD0 (oSt 5 g7 g13) <|
 kD p14 (oFld 2 g7) <|
 kD p15 (oLd false 1 g14) <|
 kD p16 (o_eql g15 (ci 1)) <|
 kD p17 (oMov g16) <|
 kD p18 (oG g17 true (oMov g1)) <|
 kD p19 (oG g17 true (oFld 0 g7)) <|
 kD p20 (oG g17 true (oLd false 1 g19)) <|
 kCall p21 (cG g17 true (cF 108 (aC g18 (aC g20 aN)))) <|
 kD p22 (oPick g17 g21 (kV (.bool false))) <|
 kCond g22 (kD p23 (oMov g5) <|
 kD p24 (oLd true 5 g7) <|
 kD p25 (oAs (.bsl false true 0 5 1 [(.str []), (vi 0), (vi 0), (vi 0), (.str [])] [(0, (.t s24))])) <|
 kD p26 (oApp 0 5 g23 g25 (oEs (.app false true 0 5 (.t s23) (.t s25)))) <|
 kD p5 (oMov g26) <|
 kEnd) <|
 kEnd) <|
 kD p27 (o_add g10 (ci 1)) <|
 kD p10 (oMov g27) <|
 kEnd) <|
 kD p28 (oMov g5) <|
 kD p4 (oMov g28) <|
 kRet,
 (r1 g4)⟩
/-- wimple/class.Of -/
noncomputable def k86 : FnK := ⟨kD p3 (oBox g0) <|
 kD p4 (oBox g1) <|
 kD p5 (oBox g2) <|
 kD p6 (oMov (ci 0)) <|
 kD p7 (oMov (ci 0)) <|
 kSeq (kD p9 (oFld 0 g4) <|
 kD p10 (oLd false 1 g9) <|
 kCall p11 (cF 75 (aC g10 aN)) <|
 kD p12 (oNot g11) <|
 kD p13 (oMov g12) <|
 kD p14 (oG g13 false (oFld 2 g4)) <|
 kD p15 (oG g13 false (oLd false 1 g14)) <|
 kCall p16 (cG g13 false (cF 75 (aC g15 aN))) <|
 kD p17 (oG g13 false (oNot g16)) <|
 kD p18 (oPick g13 (kV (.bool true)) g17) <|
 kD p19 (oMov g18) <|
 kD p20 (oG g19 false (oFld 0 g5)) <|
 kD p21 (oG g19 false (oLd false 1 g20)) <|
 kCall p22 (cG g19 false (cF 75 (aC g21 aN))) <|
 kD p23 (oG g19 false (oNot g22)) <|
 kD p24 (oPick g19 (kV (.bool true)) g23) <|
 kD p25 (oMov g24) <|
 kD p26 (oG g25 false (oFld 2 g4)) <|
 kD p27 (oG g25 false (oLd false 1 g26)) <|
 kD p28 (oG g25 false (oFld 0 g5)) <|
 kD p29 (oG g25 false (oLd false 1 g28)) <|
 kCall p30 (cG g25 false (cF 108 (aC g27 (aC g29 aN)))) <|
 kD p31 (oG g25 false (oNot g30)) <|
 kD p32 (oPick g25 (kV (.bool true)) g31) <|
 kD p33 (oMov g32) <|
 kD p34 (oG g33 false (oFld 0 g5)) <|
 kD p35 (oG g33 false (oLd false 1 g34)) <|
 kD p36 (oG g33 false (oFld 0 g4)) <|
 kD p37 (oG g33 false (oLd false 1 g36)) <|
 kCall p38 (cG g33 false (cF 108 (aC g35 (aC g37 aN)))) <|
 kD p39 (oG g33 false (oNot g38)) <|
 kD p40 (oPick g33 (kV (.bool true)) g39) <|
 kCond g40 (kD p6 (oMov (ci 0)) <|
 kD p7 (oMov (ci 2100)) <|
 kRet) <|
 kEnd) <|
 kD p41 (oBuild [(.ref .nilptr), (.ref .nilptr), (.ref .nilptr)] (bC 0 1 g3 (bC 1 1 g4 (bC 2 1 g5 bN)))) <|
 kD p42 (oBox g41) <|
 kD p8 (oMov g42) <|
 kD p43 (oMov g8) <|
 kCall p44 (cF 141 (aC g43 aN)) <|
 kD p6 (oMov g44) <|
 kD p7 (oMov (ci 0)) <|
 kRet,
 (r2 g6 g7)⟩
/-- wimple/class.Refer -/
noncomputable def k87 : FnK := ⟨kD p3 (oBox g0) <|
 kD p4 (oBox g1) <|
 kD p5 (oBox g2) <|
 kD p6 (oAlloc [(.str []), (.ref .nilsl), (.ref .nilsl), (vi 0)]) <|
 kD p7 (oMov (ci 0)) <|
 kSeq (kD p16 (oLd true 13 g3) <|
 kD p17 (oLd true 8 g4) <|
 kD p18 (oLd true 2 g5) <|
 kCall p19 (cF 86 (aC g16 (aC g17 (aC g18 aN)))) <|
 kD p15 (oMov g19) <|
 kD p20 (oExt g15 0) <|
 kD p21 (oExt g15 1) <|
 kD p8 (oMov g20) <|
 kD p9 (oMov g21) <|
 kD p22 (oMov g9) <|
 kD p23 (o_neq g22 (ci 0)) <|
 kD p24 (oMov g23) <|
 kD p25 (oG g24 false (oMov g8)) <|
 kD p26 (oG g24 false (o_neq g25 (ci 1))) <|
 kD p27 (oPick g24 (kV (.bool true)) g26) <|
 kCond g27 (kD p28 (oBuild [(.str []), (.ref .nilsl), (.ref .nilsl), (vi 0)] bN) <|
 kD0 (oSt 4 g6 g28) <|
 kD p7 (oMov (ci 2100)) <|
 kRet) <|
 kEnd) <|
 kD p29 (oBuild [(.ref .nilptr), (.ref .nilptr), (.ref .nilptr)] (bC 0 1 g3 (bC 1 1 g4 (bC 2 1 g5 bN)))) <|
 kD p30 (oBox g29) <|
 kD p10 (oMov g30) <|
 kD p32 (oMov g10) <|
 kCall p33 (cF 142 (aC g32 aN)) <|
 kD p31 (oMov g33) <|
 kD p34 (oExt g31 0) <|
 kD p35 (oExt g31 1) <|
 kD p11 (oMov g34) <|
 kD p12 (oMov g35) <|
 kD p37 (oFld 11 g3) <|
 kD p38 (oLd false 1 g37) <|
 kCall p39 (cF 143 (aC g38 aN)) <|
 kD p36 (oMov g39) <|
 kD p40 (oExt g36 0) <|
 kD p41 (oExt g36 1) <|
 kD p13 (oMov g40) <|
 kD p14 (oMov g41) <|
 kD p42 (oMov g11) <|
 kD p43 (oMov g13) <|
 kD p44 (oFld 12 g3) <|
 kD p45 (oLd false 1 g44) <|
 kD p46 (oMov g13) <|
 kCall p47 (cF 144 (aC g45 (aC g46 aN))) <|
 kD p48 (oMov g14) <|
 kD p49 (oBuild [(.str []), (.ref .nilsl), (.ref .nilsl), (vi 0)] (bC 0 1 g42 (bC 1 1 g43 (bC 2 1 g47 (bC 3 1 g48 bN))))) <|
 kD0 (oSt 4 g6 g49) <|
 kD p7 (oMov (ci 0)) <|
 kRet,
 (rS [.cell s6 true 4, .tmp s7])⟩
/-- (*wimple/cuts.Cuts).Put -/
noncomputable def k88 : FnK := ⟨kD p4 (oBox g0) <|
 kD p5 (oBox g1) <|
 kD p7 (oBox g3) <|
 kD p8 (oMov (ci 0)) <|
 kSeq (kD p13 (oLd false 1 g4) <|
 kD p14 (oPs (.eqx false .p (.t s13) (.k (.ref .nilptr)))) <|
 kCond g14 (kD p8 (oMov (ci 1)) <|
 kRet) <|
 kEnd) <|
 kD p16 (oMov g2) <|
 kD p17 (oLd false 1 g7) <|
 kCall p18 (cF 145 (aC g5 (aC g16 (aC g17 aN)))) <|
 kD p15 (oMov g18) <|
 kD p19 (oExt g15 0) <|
 kD p20 (oExt g15 1) <|
 kD p9 (oMov g19) <|
 kD p10 (oMov g20) <|
 kSeq (kD p21 (oMov g10) <|
 kD p22 (oNot g21) <|
 kCond g22 (kD p8 (oMov (ci 1500)) <|
 kRet) <|
 kEnd) <|
 kD p23 (oFld 0 g5) <|
 kD p24 (oLd false 1 g23) <|
 kCall p25 (cF 77 (aC g24 aN)) <|
 kD p11 (oAlloc [(.str [])]) <|
 kD0 (oSt 1 g11 g25) <|
 kD p26 (oLd false 1 g4) <|
 kD p27 (oNil g26) <|
 kD p28 (oFld 4 g27) <|
 kD p29 (oLd false 1 g28) <|
 kD p30 (oPs (.mkf 147 [] [(.t s11), (.t s7)])) <|
 kCall p31 (cF 146 (aC g29 (aC g30 aN))) <|
 kSeq (kD p32 (oLd false 1 g4) <|
 kD p33 (oNil g32) <|
 kD p34 (oFld 4 g33) <|
 kD p35 (oLd false 1 g34) <|
 kD p36 (oRs (.lenM (.t s35))) <|
 kD p37 (o_geq g36 (ci 128)) <|
 kCond g37 (kD p38 (oLd false 1 g4) <|
 kD p39 (oNil g38) <|
 kD p40 (oFld 4 g39) <|
 kD p41 (oLd false 1 g40) <|
 kCall p42 (cF 149 (aC g41 aN)) <|
 kCall p43 (cF 148 (aC g42 (aC (kF 150) aN))) <|
 kD p12 (oMov g43) <|
 kD p44 (oLd false 1 g4) <|
 kD p45 (oNil g44) <|
 kD p46 (oFld 4 g45) <|
 kD p47 (oLd false 1 g46) <|
 kD p48 (oMov g12) <|
 kD p49 (oPs (.mkf 152 [] [(.t s4)])) <|
 kCall p50 (cF 151 (aC g48 (aC g49 aN))) <|
 kChk g47 (oLd false 1 g46) <|
 kChk g44 (oLd false 1 g4) <|
 kD0 (oEs (.del ⟨false, [.str]⟩ (.t s47) (.t s50))) <|
 kEnd) <|
 kEnd) <|
 kD p51 (oLd false 1 g4) <|
 kD p52 (oNil g51) <|
 kD p53 (oFld 4 g52) <|
 kD p54 (oLd false 1 g53) <|
 kD p55 (oLd false 1 g11) <|
 kD p56 (oMov g9) <|
 kD0 (oEs (.mup ⟨false, [.str]⟩ (.t s54) (.t s55) (.t s56))) <|
 kD p8 (oMov (ci 0)) <|
 kRet,
 (r1 g8)⟩
/-- wimple/task.Take -/
noncomputable def k89 : FnK := ⟨kD p3 (oBox g0) <|
 kD p4 (oBox g1) <|
 kD p6 (oAlloc [(.str []), (vi 0), (.str []), (.str []), (vi 0), (.bool false), (vi 0), (vi 0)]) <|
 kD p7 (oMov (ci 0)) <|
 kD p8 (oMov (ci 0)) <|
 kSeq (kD p9 (oMov g2) <|
 kD p10 (o_lss g9 (ci 0)) <|
 kD p11 (oMov g10) <|
 kD p12 (oG g11 false (oMov g2)) <|
 kD p13 (oG g11 false (o_gtr g12 (ci 7))) <|
 kD p14 (oPick g11 (kV (.bool true)) g13) <|
 kCond g14 (kD p15 (oBuild [(.str []), (vi 0), (.str []), (.str []), (vi 0), (.bool false), (vi 0), (vi 0)] bN) <|
 kD0 (oSt 8 g6 g15) <|
 kD p7 (oMov (ci 0)) <|
 kD p8 (oMov (ci 2200)) <|
 kRet) <|
 kEnd) <|
 kSeq (kD p16 (oMov g2) <|
 kBlock 0 <|
 kD p19 (o_eql g16 (ci 3)) <|
 kD p18 (oMov g19) <|
 kCond g18 (kD p20 (oFld 0 g4) <|
 kD p21 (oLd false 1 g20) <|
 kCall p22 (cF 77 (aC g21 aN)) <|
 kD p23 (oFld 3 g3) <|
 kD0 (oSt 1 g23 g22) <|
 kD p24 (oFld 4 g3) <|
 kD p25 (oLd false 1 g24) <|
 kD p26 (o_add g25 (ci 1)) <|
 kD p27 (oFld 4 g3) <|
 kD0 (oSt 1 g27 g26) <|
 kEnd) <|
 kD p29 (o_eql g16 (ci 1)) <|
 kD p28 (oMov g29) <|
 kCond g28 (kD p30 (oFld 4 g3) <|
 kD p31 (oLd false 1 g30) <|
 kD p32 (o_add g31 (ci 1)) <|
 kD p33 (oFld 4 g3) <|
 kD0 (oSt 1 g33 g32) <|
 kEnd) <|
 kD p35 (o_eql g16 (ci 2)) <|
 kD p34 (oMov g35) <|
 kCond g34 (kD p36 (oFld 5 g3) <|
 kD0 (oSt 1 g36 (kV (.bool true))) <|
 kEnd) <|
 kD p38 (o_eql g16 (ci 0)) <|
 kD p37 (oMov g38) <|
 kCond g37 (kD p39 (oLd true 8 g3) <|
 kD0 (oSt 8 g6 g39) <|
 kD p7 (oMov (ci 2)) <|
 kD p8 (oMov (ci 0)) <|
 kRet) <|
 kD p17 (oLd true 8 g3) <|
 kD0 (oSt 8 g6 g17) <|
 kD p7 (oMov (ci 1)) <|
 kD p8 (oMov (ci 0)) <|
 kRet) <|
 kD p40 (oLd true 8 g3) <|
 kD0 (oSt 8 g6 g40) <|
 kD p7 (oMov (ci 0)) <|
 kD p8 (oMov (ci 0)) <|
 kRet,
 (rS [.cell s6 true 8, .tmp s7, .tmp s8])⟩
/-- (*wimple/job.Job).Set -/
noncomputable def k90 : FnK := ⟨kD p3 (oBox g1) <|
 kD p4 (oMov g0) <|
 kD p5 (oPs (.eqx true .p (.t s4) (.k (.ref .nilptr)))) <|
 kD p6 (oMov g5) <|
 kD p7 (oG g6 true (oMov g0)) <|
 kD p8 (oG g6 true (oNil g7)) <|
 kD p9 (oG g6 true (oFld 1 g8)) <|
 kD p10 (oG g6 true (oLd false 1 g9)) <|
 kD p11 (oG g6 true (oLenS g10)) <|
 kD p12 (oG g6 true (o_gtr g11 (ci 0))) <|
 kD p13 (oPick g6 g12 (kV (.bool false))) <|
 kCond g13 (kD p14 (oMov g0) <|
 kD p15 (oNil g14) <|
 kD p16 (oFld 1 g15) <|
 kD p17 (oLd false 1 g16) <|
 kD p18 (oMov g0) <|
 kD p19 (oNil g18) <|
 kD p20 (oFld 1 g19) <|
 kD p21 (oLd false 1 g20) <|
 kD p22 (oLenS g21) <|
 kD p23 (o_sub g22 (ci 1)) <|
 kD p24 (oLd true 8 g3) <|
 kD p25 (oIdx 8 g17 g23) <|
 kD0 (oSt 8 g25 g24) <|
 kEnd) <|
 kEnd,
 (rS [])⟩
/-- (*wimple/iter.Resolver).answered -/
noncomputable def k91 : FnK := ⟨kD p5 (oBox g2) <|
 kD p6 (oMov (kV (.bool false))) <|
 kD p14 (oMov g1) <|
 kCall p15 (cF 64 (aC g14 aN)) <|
 kD p13 (oMov g15) <|
 kD p16 (oExt g13 0) <|
 kD p17 (oExt g13 1) <|
 kD p7 (oAlloc [(.str []), (vi 0), (.str []), (.str []), (vi 0), (.bool false), (vi 0), (vi 0)]) <|
 kD0 (oSt 8 g7 g16) <|
 kD p8 (oMov g17) <|
 kSeq (kD p18 (oMov g1) <|
 kCall p19 (cF 123 (aC g18 aN)) <|
 kD p20 (o_eql g19 (ci 1)) <|
 kCond g20 (kD p21 (oMov g1) <|
 kD p22 (oMov g1) <|
 kD p23 (oNil g22) <|
 kD p24 (oFld 6 g23) <|
 kD p25 (oLd false 1 g24) <|
 kD p26 (oLd true 4 g5) <|
 kD p27 (oAs (.bsl false true 0 4 1 [(.str []), (vi 0), (vi 0), (.ref .nilsl)] [(0, (.t s26))])) <|
 kD p28 (oApp 0 4 g25 g27 (oEs (.app false true 0 4 (.t s25) (.t s27)))) <|
 kD p29 (oNil g21) <|
 kD p30 (oFld 6 g29) <|
 kD0 (oSt 1 g30 g28) <|
 kD p31 (oMov g0) <|
 kD p32 (oMov g1) <|
 kCall p33 (cF 118 (aC g31 (aC g32 (aC (ci 0) aN)))) <|
 kD p6 (oMov g33) <|
 kRet) <|
 kEnd) <|
 kSeq (kD p34 (oFld 3 g5) <|
 kD p35 (oLd false 1 g34) <|
 kD p36 (oFld 3 g5) <|
 kD p37 (oLd false 1 g36) <|
 kD p38 (oLenS g37) <|
 kD p39 (oPs (.minI (.t s38) [(.k (vi 8))])) <|
 kD p40 (oSlc 1 g35 none (some g39) (oPs (.slc 1 (.t s35) none (some (.t s39)) none))) <|
 kD p41 (oLenS g40) <|
 kD p42 (oMov (ci 0)) <|
 kBlock 0 <|
 kLoop <|
 kD p43 (o_lss g42 g41) <|
 kSeq (kCond g43 (kEnd) <|
 kExit 0) <|
 kSeq (kBlock 1 <|
 kD p44 (oIdx 1 g40 g42) <|
 kD p45 (oLd false 1 g44) <|
 kD p10 (oMov g45) <|
 kD p47 (oMov g10) <|
 kCall p48 (cF 154 (aC g47 aN)) <|
 kD p46 (oMov g48) <|
 kD p49 (oExt g46 0) <|
 kD p50 (oExt g46 1) <|
 kD p11 (oMov g49) <|
 kD p12 (oMov g50) <|
 kD p51 (oMov g12) <|
 kD p52 (o_eql g51 (ci 0)) <|
 kCond g52 (kD p53 (oMov g0) <|
 kD p54 (oNil g53) <|
 kD p55 (oFld 14 g54) <|
 kD p56 (oLd false 1 g55) <|
 kD p57 (oFld 0 g7) <|
 kD p58 (oLd false 1 g57) <|
 kD p59 (oMov g11) <|
 kD p60 (oMov g0) <|
 kD p61 (oNil g60) <|
 kD p62 (oFld 11 g61) <|
 kD p63 (oLd false 1 g62) <|
 kD p64 (oFld 2 g5) <|
 kD p65 (oLd false 1 g64) <|
 kD p66 (o_add g63 g65) <|
 kD p67 (oMov g0) <|
 kD p68 (oNil g67) <|
 kD p69 (oFld 11 g68) <|
 kD p70 (oLd false 1 g69) <|
 kCall p71 (cF 155 (aC g56 (aC g58 (aC g59 (aC g66 (aC g70 aN)))))) <|
 kEnd) <|
 kEnd) <|
 kD p72 (o_add g42 (ci 1)) <|
 kD p42 (oMov g72) <|
 kEnd) <|
 kD p73 (oMov g1) <|
 kCall p74 (cF 156 (aC g73 aN)) <|
 kD p6 (oMov (kV (.bool true))) <|
 kRet,
 (r1 g6)⟩
/-- (*wimple/iter.Resolver).put -/
noncomputable def k92 : FnK := ⟨kD p6 (oBox g2) <|
 kD p7 (oBox g3) <|
 kD p8 (oAlloc [(.str []), (vi 0), (vi 0), (.ref .nilsl)]) <|
 kD p14 (oMov g1) <|
 kD p15 (oNil g14) <|
 kD p16 (oFld 10 g15) <|
 kD p17 (oLd false 1 g16) <|
 kCall p18 (cF 157 (aC g17 aN)) <|
 kD p13 (oMov g18) <|
 kD p19 (oExt g13 0) <|
 kD p20 (oExt g13 1) <|
 kD p9 (oMov g19) <|
 kD p10 (oMov g20) <|
 kD p21 (oMov g9) <|
 kD p22 (oPs (.mkf 159 [] [(.t s6), (.t s7)])) <|
 kCall p23 (cF 158 (aC g21 (aC g22 aN))) <|
 kD p11 (oMov g23) <|
 kD p24 (oMov g9) <|
 kD p25 (oMov g11) <|
 kD p26 (oIdx 4 g24 g25) <|
 kD p27 (oLd true 4 g26) <|
 kD p12 (oAlloc [(.str []), (vi 0), (vi 0), (.ref .nilsl)]) <|
 kD0 (oSt 4 g12 g27) <|
 kSeq (kD p28 (oFld 2 g12) <|
 kD p29 (oLd false 1 g28) <|
 kD p30 (o_gtr g29 (ci 0)) <|
 kCond g30 (kD p31 (oMov g0) <|
 kD p32 (oNil g31) <|
 kD p33 (oFld 12 g32) <|
 kD p34 (oLd false 1 g33) <|
 kD p35 (oLd true 4 g12) <|
 kD p36 (oMov g0) <|
 kD p37 (oNil g36) <|
 kD p38 (oFld 11 g37) <|
 kD p39 (oLd false 1 g38) <|
 kD p40 (oFld 2 g12) <|
 kD p41 (oLd false 1 g40) <|
 kD p42 (o_add g39 g41) <|
 kD p43 (oBuild [(.str []), (vi 0), (vi 0), (.ref .nilsl), (vi 0), (vi 0)] (bC 0 4 g35 (bC 4 1 (ci 3) (bC 5 1 g42 bN)))) <|
 kD p44 (oMov g0) <|
 kD p45 (oNil g44) <|
 kD p46 (oFld 11 g45) <|
 kD p47 (oLd false 1 g46) <|
 kCall p48 (cF 160 (aC g34 (aC g43 (aC g47 aN)))) <|
 kEnd) <|
 kEnd) <|
 kD p49 (oLd true 4 g12) <|
 kD0 (oSt 4 g8 g49) <|
 kRet,
 (rS [.cell s8 true 4])⟩
/-- (*wimple/iter.Resolver).ledOn -/
noncomputable def k93 : FnK := ⟨kD p5 (oBox g2) <|
 kD p6 (oMov (kV (.bool false))) <|
 kSeq (kD p7 (oMov g1) <|
 kCall p8 (cF 123 (aC g7 aN)) <|
 kD p9 (o_gtr g8 (ci 1)) <|
 kCond g9 (kD p10 (oMov g0) <|
 kD p11 (oMov g1) <|
 kCall p12 (cF 73 (aC g10 (aC g11 aN))) <|
 kD p6 (oMov g12) <|
 kRet) <|
 kEnd) <|
 kD p13 (oMov g1) <|
 kD p14 (oMov g1) <|
 kD p15 (oNil g14) <|
 kD p16 (oFld 6 g15) <|
 kD p17 (oLd false 1 g16) <|
 kD p18 (oLd true 4 g5) <|
 kD p19 (oAs (.bsl false true 0 4 1 [(.str []), (vi 0), (vi 0), (.ref .nilsl)] [(0, (.t s18))])) <|
 kD p20 (oApp 0 4 g17 g19 (oEs (.app false true 0 4 (.t s17) (.t s19)))) <|
 kD p21 (oNil g13) <|
 kD p22 (oFld 6 g21) <|
 kD0 (oSt 1 g22 g20) <|
 kSeq (kD p23 (oMov g1) <|
 kD p24 (oFld 3 g5) <|
 kD p25 (oLd false 1 g24) <|
 kD p26 (oIdx 1 g25 (ci 0)) <|
 kD p27 (oLd false 1 g26) <|
 kCall p28 (cF 77 (aC g27 aN)) <|
 kCall p29 (cF 161 (aC g23 (aC g28 aN))) <|
 kCond g29 (kD p6 (oMov (kV (.bool true))) <|
 kRet) <|
 kEnd) <|
 kD p30 (oMov g0) <|
 kD p31 (oMov g1) <|
 kCall p32 (cF 118 (aC g30 (aC g31 (aC (ci 2) aN)))) <|
 kD p6 (oMov g32) <|
 kRet,
 (r1 g6)⟩
/-- (*wimple/iter.Resolver).lack -/
noncomputable def k94 : FnK := ⟨kD p13 (oMov g1) <|
 kD p14 (oNil g13) <|
 kD p15 (oFld 11 g14) <|
 kD p16 (oLd false 1 g15) <|
 kD p17 (oLenS g16) <|
 kD p18 (oMov (ci 0)) <|
 kBlock 0 <|
 kLoop <|
 kD p19 (o_lss g18 g17) <|
 kSeq (kCond g19 (kEnd) <|
 kExit 0) <|
 kSeq (kBlock 1 <|
 kD p20 (oIdx 5 g16 g18) <|
 kD p21 (oLd true 5 g20) <|
 kD p9 (oAlloc [(.str []), (vi 0), (vi 0), (vi 0), (.str [])]) <|
 kD0 (oSt 5 g9 g21) <|
 kSeq (kD p22 (oFld 1 g9) <|
 kD p23 (oLd false 1 g22) <|
 kD p24 (o_neq g23 (ci 6)) <|
 kD p25 (oMov g24) <|
 kD p26 (oG g25 false (oFld 0 g9)) <|
 kD p27 (oG g25 false (oLd false 1 g26)) <|
 kD p28 (oG g25 false (oMov g2)) <|
 kCall p29 (cG g25 false (cF 108 (aC g27 (aC g28 aN)))) <|
 kD p30 (oG g25 false (oNot g29)) <|
 kD p31 (oPick g25 (kV (.bool true)) g30) <|
 kCond g31 (kExit 1) <|
 kEnd) <|
 kD p33 (oFld 4 g9) <|
 kD p34 (oLd false 1 g33) <|
 kCall p35 (cF 162 (aC g34 aN)) <|
 kD p32 (oMov g35) <|
 kD p36 (oExt g32 0) <|
 kD p37 (oExt g32 1) <|
 kD p10 (oAlloc [(.str []), (.str []), (vi 0), (vi 0), (vi 0), (vi 0), (vi 0)]) <|
 kD0 (oSt 7 g10 g36) <|
 kD p11 (oMov g37) <|
 kSeq (kD p38 (oFld 3 g9) <|
 kD p39 (oLd false 1 g38) <|
 kD p40 (oFld 6 g10) <|
 kD p41 (oLd false 1 g40) <|
 kD p42 (oPs (.minI (.t s39) [(.t s41), (.k (vi 3600))])) <|
 kD p12 (oMov g42) <|
 kD p43 (oMov g12) <|
 kD p44 (o_gtr g43 (ci 0)) <|
 kCond g44 (kD p45 (oMov g0) <|
 kD p46 (oNil g45) <|
 kD p47 (oFld 13 g46) <|
 kD p48 (oLd false 1 g47) <|
 kD p49 (oMov g2) <|
 kD p50 (oMov g3) <|
 kD p51 (oMov g0) <|
 kD p52 (oNil g51) <|
 kD p53 (oFld 11 g52) <|
 kD p54 (oLd false 1 g53) <|
 kD p55 (oMov g12) <|
 kD p56 (o_add g54 g55) <|
 kD p57 (oBuild [(.str []), (vi 0), (vi 0)] (bC 0 1 g49 (bC 1 1 g50 (bC 2 1 g56 bN)))) <|
 kD p58 (oMov g0) <|
 kD p59 (oNil g58) <|
 kD p60 (oFld 11 g59) <|
 kD p61 (oLd false 1 g60) <|
 kCall p62 (cF 163 (aC g48 (aC g57 (aC g61 aN)))) <|
 kEnd) <|
 kEnd) <|
 kRet) <|
 kD p63 (o_add g18 (ci 1)) <|
 kD p18 (oMov g63) <|
 kEnd,
 (rS [])⟩
/-- (*wimple/iter.Resolver).gone -/
noncomputable def k95 : FnK := ⟨kD p6 (oMov (kV (.bool false))) <|
 kSeq (kD p7 (oMov g1) <|
 kCall p8 (cF 123 (aC g7 aN)) <|
 kD p9 (o_gtr g8 (ci 1)) <|
 kCond g9 (kD p10 (oMov g0) <|
 kD p11 (oMov g1) <|
 kCall p12 (cF 73 (aC g10 (aC g11 aN))) <|
 kD p6 (oMov g12) <|
 kRet) <|
 kEnd) <|
 kD p13 (oMov g0) <|
 kD p14 (oMov g1) <|
 kD p15 (oMov g2) <|
 kCall p16 (cF 118 (aC g13 (aC g14 (aC g15 aN)))) <|
 kD p6 (oMov g16) <|
 kRet,
 (r1 g6)⟩
/-- wimple/wimpleref4.MsgMay -/
noncomputable def k96 : FnK := ⟨kD p1 (oBox g0) <|
 kD p2 (oMov (kV (.bool false))) <|
 kD p11 (oFld 0 g1) <|
 kD p12 (oLd true 9 g11) <|
 kD p13 (oBuild [(vi 0), (vi 0), (vi 0), (vi 0)] bN) <|
 kCall p14 (cF 97 (aC g12 (aC g13 aN))) <|
 kD p10 (oMov g14) <|
 kD p15 (oExt g10 0) <|
 kD p16 (oExt g10 1) <|
 kD p3 (oMov g15) <|
 kD p4 (oMov g16) <|
 kSeq (kD p17 (oMov g4) <|
 kD p18 (o_neq g17 (ci 0)) <|
 kD p19 (oMov g18) <|
 kD p20 (oG g19 false (oFld 9 g1)) <|
 kD p21 (oG g19 false (oLd false 1 g20)) <|
 kD p22 (oG g19 false (oLenS g21)) <|
 kD p23 (oG g19 false (o_gtr g22 (ci 64))) <|
 kD p24 (oPick g19 (kV (.bool true)) g23) <|
 kD p25 (oMov g24) <|
 kD p26 (oG g25 false (oFld 10 g1)) <|
 kD p27 (oG g25 false (oLd false 1 g26)) <|
 kD p28 (oG g25 false (oLenS g27)) <|
 kD p29 (oG g25 false (o_gtr g28 (ci 64))) <|
 kD p30 (oPick g25 (kV (.bool true)) g29) <|
 kD p31 (oMov g30) <|
 kD p32 (oG g31 false (oFld 11 g1)) <|
 kD p33 (oG g31 false (oLd false 1 g32)) <|
 kD p34 (oG g31 false (oLenS g33)) <|
 kD p35 (oG g31 false (o_gtr g34 (ci 64))) <|
 kD p36 (oPick g31 (kV (.bool true)) g35) <|
 kD p37 (oMov g36) <|
 kD p38 (oG g37 false (oFld 12 g1)) <|
 kD p39 (oG g37 false (oLd false 1 g38)) <|
 kD p40 (oG g37 false (oLenS g39)) <|
 kD p41 (oG g37 false (o_gtr g40 (ci 64))) <|
 kD p42 (oPick g37 (kV (.bool true)) g41) <|
 kCond g42 (kD p2 (oMov (kV (.bool false))) <|
 kRet) <|
 kEnd) <|
 kSeq (kD p5 (oMov (ci 0)) <|
 kBlock 0 <|
 kLoop <|
 kSeq (kD p43 (oMov g5) <|
 kD p44 (oFld 9 g1) <|
 kD p45 (oLd false 1 g44) <|
 kD p46 (oLenS g45) <|
 kD p47 (o_lss g43 g46) <|
 kCond g47 (kEnd) <|
 kExit 0) <|
 kSeq (kBlock 1 <|
 kD p50 (oFld 9 g1) <|
 kD p51 (oLd false 1 g50) <|
 kD p52 (oMov g5) <|
 kD p53 (oIdx 3 g51 g52) <|
 kD p54 (oLd true 3 g53) <|
 kD p6 (oAlloc [(.str []), (vi 0), (vi 0)]) <|
 kD0 (oSt 3 g6 g54) <|
 kD p55 (oFld 0 g6) <|
 kD p56 (oLd false 1 g55) <|
 kCall p57 (cF 164 (aC g56 aN)) <|
 kD p58 (oNot g57) <|
 kD p59 (oMov g58) <|
 kD p60 (oG g59 false (oFld 1 g6)) <|
 kD p61 (oG g59 false (oLd false 1 g60)) <|
 kCall p62 (cG g59 false (cF 165 (aC g61 aN))) <|
 kD p63 (oG g59 false (oNot g62)) <|
 kD p64 (oPick g59 (kV (.bool true)) g63) <|
 kD p65 (oMov g64) <|
 kD p66 (oG g65 false (oFld 1 g6)) <|
 kD p67 (oG g65 false (oLd false 1 g66)) <|
 kD p68 (oG g65 false (o_eql g67 (ci 0))) <|
 kD p69 (oPick g65 (kV (.bool true)) g68) <|
 kD p70 (oMov g69) <|
 kD p71 (oG g70 false (oFld 2 g6)) <|
 kD p72 (oG g70 false (oLd false 1 g71)) <|
 kCall p73 (cG g70 false (cF 165 (aC g72 aN))) <|
 kD p74 (oG g70 false (oNot g73)) <|
 kD p75 (oPick g70 (kV (.bool true)) g74) <|
 kCond g75 (kD p2 (oMov (kV (.bool false))) <|
 kRet) <|
 kEnd) <|
 kD p48 (oMov g5) <|
 kD p49 (o_add g48 (ci 1)) <|
 kD p5 (oMov g49) <|
 kEnd) <|
 kD p76 (oFld 10 g1) <|
 kD p77 (oLd false 1 g76) <|
 kD p78 (oFld 11 g1) <|
 kD p79 (oLd false 1 g78) <|
 kD p80 (oFld 12 g1) <|
 kD p81 (oLd false 1 g80) <|
 kD p82 (oBsl1 0 1 3 (lC g77 (lC g79 (lC g81 lN)))) <|
 kD p7 (oMov g82) <|
 kSeq (kD p8 (oMov (ci 0)) <|
 kBlock 2 <|
 kLoop <|
 kSeq (kD p83 (oMov g8) <|
 kD p84 (o_lss g83 (ci 3)) <|
 kCond g84 (kEnd) <|
 kExit 2) <|
 kSeq (kBlock 3 <|
 kD p9 (oMov (ci 0)) <|
 kBlock 4 <|
 kLoop <|
 kSeq (kD p87 (oMov g9) <|
 kD p88 (oMov g7) <|
 kD p89 (oMov g8) <|
 kD p90 (oIdx 1 g88 g89) <|
 kD p91 (oLd false 1 g90) <|
 kD p92 (oLenS g91) <|
 kD p93 (o_lss g87 g92) <|
 kCond g93 (kEnd) <|
 kExit 4) <|
 kSeq (kBlock 5 <|
 kD p96 (oMov g7) <|
 kD p97 (oMov g8) <|
 kD p98 (oIdx 1 g96 g97) <|
 kD p99 (oLd false 1 g98) <|
 kD p100 (oMov g9) <|
 kD p101 (oIdx 5 g99 g100) <|
 kD p102 (oLd true 5 g101) <|
 kCall p103 (cF 166 (aC g102 aN)) <|
 kD p104 (oNot g103) <|
 kCond g104 (kD p2 (oMov (kV (.bool false))) <|
 kRet) <|
 kEnd) <|
 kD p94 (oMov g9) <|
 kD p95 (o_add g94 (ci 1)) <|
 kD p9 (oMov g95) <|
 kEnd) <|
 kD p85 (oMov g8) <|
 kD p86 (o_add g85 (ci 1)) <|
 kD p8 (oMov g86) <|
 kEnd) <|
 kD p2 (oMov (kV (.bool true))) <|
 kRet,
 (r1 g2)⟩
/-- wimple/wimpleref4.PutHead -/
noncomputable def k97 : FnK := ⟨kD p2 (oBox g0) <|
 kD p3 (oBox g1) <|
 kD p4 (oMov (kV (.str []))) <|
 kD p5 (oMov (ci 0)) <|
 kSeq (kD p9 (oFld 0 g2) <|
 kD p10 (oLd false 1 g9) <|
 kD p11 (o_lss g10 (ci 0)) <|
 kD p12 (oMov g11) <|
 kD p13 (oG g12 false (oFld 0 g2)) <|
 kD p14 (oG g12 false (oLd false 1 g13)) <|
 kD p15 (oG g12 false (o_gtr g14 (ci 65535))) <|
 kD p16 (oPick g12 (kV (.bool true)) g15) <|
 kD p17 (oMov g16) <|
 kD p18 (oG g17 false (oFld 2 g2)) <|
 kD p19 (oG g17 false (oLd false 1 g18)) <|
 kD p20 (oG g17 false (o_lss g19 (ci 0))) <|
 kD p21 (oPick g17 (kV (.bool true)) g20) <|
 kD p22 (oMov g21) <|
 kD p23 (oG g22 false (oFld 2 g2)) <|
 kD p24 (oG g22 false (oLd false 1 g23)) <|
 kD p25 (oG g22 false (o_gtr g24 (ci 15))) <|
 kD p26 (oPick g22 (kV (.bool true)) g25) <|
 kD p27 (oMov g26) <|
 kD p28 (oG g27 false (oFld 8 g2)) <|
 kD p29 (oG g27 false (oLd false 1 g28)) <|
 kD p30 (oG g27 false (o_lss g29 (ci 0))) <|
 kD p31 (oPick g27 (kV (.bool true)) g30) <|
 kD p32 (oMov g31) <|
 kD p33 (oG g32 false (oFld 8 g2)) <|
 kD p34 (oG g32 false (oLd false 1 g33)) <|
 kD p35 (oG g32 false (o_gtr g34 (ci 15))) <|
 kD p36 (oPick g32 (kV (.bool true)) g35) <|
 kD p37 (oMov g36) <|
 kD p38 (oG g37 false (oFld 7 g2)) <|
 kD p39 (oG g37 false (oLd false 1 g38)) <|
 kD p40 (oG g37 false (o_lss g39 (ci 0))) <|
 kD p41 (oPick g37 (kV (.bool true)) g40) <|
 kD p42 (oMov g41) <|
 kD p43 (oG g42 false (oFld 7 g2)) <|
 kD p44 (oG g42 false (oLd false 1 g43)) <|
 kD p45 (oG g42 false (o_gtr g44 (ci 7))) <|
 kD p46 (oPick g42 (kV (.bool true)) g45) <|
 kCond g46 (kD p4 (oMov (kV (.str []))) <|
 kD p5 (oMov (ci 600)) <|
 kRet) <|
 kEnd) <|
 kD p47 (oFld 1 g2) <|
 kD p48 (oLd false 1 g47) <|
 kD p50 (oFld 2 g2) <|
 kD p51 (oLd false 1 g50) <|
 kD p52 (o_shl g51 (kV (.int .u64 (.c (.ofNat 11))))) <|
 kD p54 (oFld 3 g2) <|
 kD p55 (oLd false 1 g54) <|
 kD p58 (oFld 4 g2) <|
 kD p59 (oLd false 1 g58) <|
 kD p62 (oFld 5 g2) <|
 kD p63 (oLd false 1 g62) <|
 kD p66 (oFld 6 g2) <|
 kD p67 (oLd false 1 g66) <|
 kD p70 (oFld 7 g2) <|
 kD p71 (oLd false 1 g70) <|
 kD p72 (o_shl g71 (kV (.int .u64 (.c (.ofNat 4))))) <|
 kD p74 (oFld 8 g2) <|
 kD p75 (oLd false 1 g74) <|
 kCall p49 (cF 167 (aC g48 (aC (ci 15) aN))) <|
 kChk g75 (oLd false 1 g74) <|
 kChk g71 (oLd false 1 g70) <|
 kChk g67 (oLd false 1 g66) <|
 kChk g63 (oLd false 1 g62) <|
 kChk g59 (oLd false 1 g58) <|
 kChk g55 (oLd false 1 g54) <|
 kChk g51 (oLd false 1 g50) <|
 kD p53 (o_or g49 g52) <|
 kCall p56 (cF 167 (aC g55 (aC (ci 10) aN))) <|
 kChk g75 (oLd false 1 g74) <|
 kChk g71 (oLd false 1 g70) <|
 kChk g67 (oLd false 1 g66) <|
 kChk g63 (oLd false 1 g62) <|
 kChk g59 (oLd false 1 g58) <|
 kChk g51 (oLd false 1 g50) <|
 kD p57 (o_or g53 g56) <|
 kCall p60 (cF 167 (aC g59 (aC (ci 9) aN))) <|
 kChk g75 (oLd false 1 g74) <|
 kChk g71 (oLd false 1 g70) <|
 kChk g67 (oLd false 1 g66) <|
 kChk g63 (oLd false 1 g62) <|
 kChk g51 (oLd false 1 g50) <|
 kD p61 (o_or g57 g60) <|
 kCall p64 (cF 167 (aC g63 (aC (ci 8) aN))) <|
 kChk g75 (oLd false 1 g74) <|
 kChk g71 (oLd false 1 g70) <|
 kChk g67 (oLd false 1 g66) <|
 kChk g51 (oLd false 1 g50) <|
 kD p65 (o_or g61 g64) <|
 kCall p68 (cF 167 (aC g67 (aC (ci 7) aN))) <|
 kChk g75 (oLd false 1 g74) <|
 kChk g71 (oLd false 1 g70) <|
 kChk g51 (oLd false 1 g50) <|
 kD p69 (o_or g65 g68) <|
 kD p73 (o_or g69 g72) <|
 kD p76 (o_or g73 g75) <|
 kD p6 (oMov g76) <|
 kD p77 (oFld 0 g2) <|
 kD p78 (oLd false 1 g77) <|
 kCall p79 (cF 100 (aC g78 (aC (ci 2) aN))) <|
 kD p80 (oMov g6) <|
 kCall p81 (cF 100 (aC g80 (aC (ci 2) aN))) <|
 kD p82 (o_add g79 g81) <|
 kD p7 (oMov g82) <|
 kSeq (kD p8 (oMov (ci 0)) <|
 kBlock 0 <|
 kLoop <|
 kSeq (kD p83 (oMov g8) <|
 kD p84 (o_lss g83 (ci 4)) <|
 kCond g84 (kEnd) <|
 kExit 0) <|
 kSeq (kBlock 1 <|
 kSeq (kD p87 (oMov g8) <|
 kD p88 (oIdxa 4 1 g3 g87) <|
 kD p89 (oLd false 1 g88) <|
 kD p90 (o_lss g89 (ci 0)) <|
 kD p91 (oMov g90) <|
 kD p92 (oG g91 false (oMov g8)) <|
 kD p93 (oG g91 false (oIdxa 4 1 g3 g92)) <|
 kD p94 (oG g91 false (oLd false 1 g93)) <|
 kD p95 (oG g91 false (o_gtr g94 (ci 65535))) <|
 kD p96 (oPick g91 (kV (.bool true)) g95) <|
 kCond g96 (kD p4 (oMov (kV (.str []))) <|
 kD p5 (oMov (ci 600)) <|
 kRet) <|
 kEnd) <|
 kD p97 (oMov g7) <|
 kD p98 (oMov g8) <|
 kD p99 (oIdxa 4 1 g3 g98) <|
 kD p100 (oLd false 1 g99) <|
 kCall p101 (cF 100 (aC g100 (aC (ci 2) aN))) <|
 kD p102 (o_add g97 g101) <|
 kD p7 (oMov g102) <|
 kEnd) <|
 kD p85 (oMov g8) <|
 kD p86 (o_add g85 (ci 1)) <|
 kD p8 (oMov g86) <|
 kEnd) <|
 kD p103 (oMov g7) <|
 kD p4 (oMov g103) <|
 kD p5 (oMov (ci 0)) <|
 kRet,
 (r2 g4 g5)⟩
/-- (*wimple/wimpleref4.Writer).Raw -/
noncomputable def k98 : FnK := ⟨kD p4 (oMov (ci 0)) <|
 kSeq (kD p5 (oMov g1) <|
 kD p6 (oLenT g5) <|
 kD p7 (oMov g0) <|
 kD p8 (oNil g7) <|
 kD p9 (oFld 0 g8) <|
 kD p10 (oLd false 1 g9) <|
 kD p11 (oLenT g10) <|
 kD p12 (o_sub (ci 4096) g11) <|
 kD p13 (o_gtr g6 g12) <|
 kCond g13 (kD p4 (oMov (ci 501)) <|
 kRet) <|
 kEnd) <|
 kD p14 (oMov g0) <|
 kD p15 (oMov g0) <|
 kD p16 (oNil g15) <|
 kD p17 (oFld 0 g16) <|
 kD p18 (oLd false 1 g17) <|
 kD p19 (oMov g1) <|
 kD p20 (o_add g18 g19) <|
 kD p21 (oNil g14) <|
 kD p22 (oFld 0 g21) <|
 kD0 (oSt 1 g22 g20) <|
 kD p4 (oMov (ci 0)) <|
 kRet,
 (r1 g4)⟩
/-- (*wimple/wimpleref4.Writer).Name -/
noncomputable def k99 : FnK := ⟨kD p4 (oMov (ci 0)) <|
 kSeq (kD p11 (oMov g1) <|
 kCall p12 (cF 164 (aC g11 aN)) <|
 kD p13 (oNot g12) <|
 kCond g13 (kD p4 (oMov (ci 500)) <|
 kRet) <|
 kEnd) <|
 kD p14 (oMov g1) <|
 kD p5 (oMov (kV (.str []))) <|
 kD p6 (oMov g14) <|
 kD p7 (oMov (kV (.ref .nilsl))) <|
 kSeq (kBlock 0 <|
 kLoop <|
 kSeq (kD p15 (oMov g6) <|
 kD p16 (o_neq g15 (kV (.str [0]))) <|
 kCond g16 (kEnd) <|
 kExit 0) <|
 kBlock 1 <|
 kD p17 (oMov g0) <|
 kD p18 (oMov g6) <|
 kCall p19 (cF 168 (aC g17 (aC g18 aN))) <|
 kD p8 (oMov g19) <|
 kSeq (kD p20 (oMov g8) <|
 kD p21 (o_geq g20 (ci 0)) <|
 kCond g21 (kD p22 (oMov g5) <|
 kD p23 (oMov g8) <|
 kD p24 (o_add (ci 49152) g23) <|
 kCall p25 (cF 100 (aC g24 (aC (ci 2) aN))) <|
 kD p26 (o_add g22 g25) <|
 kD p5 (oMov g26) <|
 kExit 0) <|
 kEnd) <|
 kD p27 (oMov g0) <|
 kD p28 (oNil g27) <|
 kD p29 (oFld 0 g28) <|
 kD p30 (oLd false 1 g29) <|
 kD p31 (oLenT g30) <|
 kD p32 (oMov g5) <|
 kD p33 (oLenT g32) <|
 kD p34 (o_add g31 g33) <|
 kD p9 (oMov g34) <|
 kSeq (kD p35 (oMov g9) <|
 kD p36 (o_leq g35 (ci 16383)) <|
 kCond g36 (kD p37 (oMov g7) <|
 kD p38 (oMov g6) <|
 kD p39 (oMov g9) <|
 kD p40 (oBuild [(.str []), (vi 0)] (bC 0 1 g38 (bC 1 1 g39 bN))) <|
 kD p41 (oAs (.bsl false true 0 2 1 [(.str []), (vi 0)] [(0, (.t s40))])) <|
 kD p42 (oApp 0 2 g37 g41 (oEs (.app false true 0 2 (.t s37) (.t s41)))) <|
 kD p7 (oMov g42) <|
 kEnd) <|
 kEnd) <|
 kD p43 (oMov g6) <|
 kD p44 (oIdxs g43 (ci 0)) <|
 kD p45 (oCvti .i64 g44) <|
 kD p46 (o_add (ci 1) g45) <|
 kD p10 (oMov g46) <|
 kD p47 (oMov g5) <|
 kD p48 (oMov g6) <|
 kD p49 (oMov g10) <|
 kD p50 (oSlc 0 g48 none (some g49) (oPs (.slc 0 (.t s48) none (some (.t s49)) none))) <|
 kD p51 (o_add g47 g50) <|
 kD p5 (oMov g51) <|
 kD p52 (oMov g6) <|
 kD p53 (oMov g10) <|
 kD p54 (oSlc 0 g52 (some g53) none (oPs (.slc 0 (.t s52) (some (.t s53)) none none))) <|
 kD p6 (oMov g54) <|
 kEnd) <|
 kSeq (kD p55 (oMov g6) <|
 kD p56 (o_eql g55 (kV (.str [0]))) <|
 kCond g56 (kD p57 (oMov g5) <|
 kD p58 (oMov g6) <|
 kD p59 (o_add g57 g58) <|
 kD p5 (oMov g59) <|
 kEnd) <|
 kEnd) <|
 kSeq (kD p60 (oMov g0) <|
 kD p61 (oNil g60) <|
 kD p62 (oFld 0 g61) <|
 kD p63 (oLd false 1 g62) <|
 kD p64 (oLenT g63) <|
 kD p65 (oMov g5) <|
 kD p66 (oLenT g65) <|
 kD p67 (o_add g64 g66) <|
 kD p68 (o_gtr g67 (ci 4096)) <|
 kCond g68 (kD p4 (oMov (ci 501)) <|
 kRet) <|
 kEnd) <|
 kD p69 (oMov g0) <|
 kD p70 (oMov g0) <|
 kD p71 (oNil g70) <|
 kD p72 (oFld 0 g71) <|
 kD p73 (oLd false 1 g72) <|
 kD p74 (oMov g5) <|
 kD p75 (o_add g73 g74) <|
 kD p76 (oNil g69) <|
 kD p77 (oFld 0 g76) <|
 kD0 (oSt 1 g77 g75) <|
 kD p78 (oMov g0) <|
 kD p79 (oMov g0) <|
 kD p80 (oNil g79) <|
 kD p81 (oFld 1 g80) <|
 kD p82 (oLd false 1 g81) <|
 kD p83 (oMov g7) <|
 kD p84 (oApp 0 2 g82 g83 (oEs (.app false true 0 2 (.t s82) (.t s83)))) <|
 kD p85 (oNil g78) <|
 kD p86 (oFld 1 g85) <|
 kD0 (oSt 1 g86 g84) <|
 kD p4 (oMov (ci 0)) <|
 kRet,
 (r1 g4)⟩
/-- wimple/wimpleref1.Be -/
noncomputable def k100 : FnK := ⟨kD p4 (oMov (kV (.str []))) <|
 kD p8 (oMov g1) <|
 kD p9 (oAs (.mks true false 1 1 [(.int .u8 (.c (.ofNat 0)))] (.t s8) (.t s8))) <|
 kD p5 (oMov g9) <|
 kD p10 (oMov g0) <|
 kD p11 (oCvti .u64 g10) <|
 kD p6 (oMov g11) <|
 kSeq (kD p12 (oMov g1) <|
 kD p13 (o_sub g12 (ci 1)) <|
 kD p7 (oMov g13) <|
 kBlock 0 <|
 kLoop <|
 kSeq (kD p14 (oMov g7) <|
 kD p15 (o_geq g14 (ci 0)) <|
 kCond g15 (kEnd) <|
 kExit 0) <|
 kSeq (kBlock 1 <|
 kD p18 (oMov g5) <|
 kD p19 (oMov g7) <|
 kD p20 (oMov g6) <|
 kD p21 (o_and g20 (kV (.int .u64 (.c (.ofNat 255))))) <|
 kD p22 (oCvti .u8 g21) <|
 kD p23 (oIdx 1 g18 g19) <|
 kD0 (oSt 1 g23 g22) <|
 kD p24 (oMov g6) <|
 kD p25 (o_shr g24 (kV (.int .u64 (.c (.ofNat 8))))) <|
 kD p6 (oMov g25) <|
 kEnd) <|
 kD p16 (oMov g7) <|
 kD p17 (o_sub g16 (ci 1)) <|
 kD p7 (oMov g17) <|
 kEnd) <|
 kD p26 (oMov g5) <|
 kD p27 (oCvts g26 (oRs (.cvts (.t s26)))) <|
 kD p4 (oMov g27) <|
 kRet,
 (r1 g4)⟩
/-- (*wimple/wimpleref4.Writer).rr -/
noncomputable def k101 : FnK := ⟨kD p3 (oBox g1) <|
 kD p4 (oMov (kV (.bool false))) <|
 kSeq (kD p5 (oMov g0) <|
 kD p6 (oFld 0 g3) <|
 kD p7 (oLd false 1 g6) <|
 kCall p8 (cF 99 (aC g5 (aC g7 aN))) <|
 kD p9 (o_neq g8 (ci 0)) <|
 kCond g9 (kD p4 (oMov (kV (.bool false))) <|
 kRet) <|
 kEnd) <|
 kD p10 (oMov g0) <|
 kD p11 (oFld 1 g3) <|
 kD p12 (oLd false 1 g11) <|
 kD p14 (oFld 2 g3) <|
 kD p15 (oLd false 1 g14) <|
 kD p18 (oFld 3 g3) <|
 kD p19 (oLd false 1 g18) <|
 kD p22 (oFld 4 g3) <|
 kD p23 (oLd false 1 g22) <|
 kD p24 (oLenT g23) <|
 kD p27 (oFld 4 g3) <|
 kD p28 (oLd false 1 g27) <|
 kCall p13 (cF 100 (aC g12 (aC (ci 2) aN))) <|
 kChk g28 (oLd false 1 g27) <|
 kChk g23 (oLd false 1 g22) <|
 kChk g19 (oLd false 1 g18) <|
 kChk g15 (oLd false 1 g14) <|
 kCall p16 (cF 100 (aC g15 (aC (ci 2) aN))) <|
 kChk g28 (oLd false 1 g27) <|
 kChk g23 (oLd false 1 g22) <|
 kChk g19 (oLd false 1 g18) <|
 kD p17 (o_add g13 g16) <|
 kCall p20 (cF 100 (aC g19 (aC (ci 4) aN))) <|
 kChk g28 (oLd false 1 g27) <|
 kChk g23 (oLd false 1 g22) <|
 kD p21 (o_add g17 g20) <|
 kCall p25 (cF 100 (aC g24 (aC (ci 2) aN))) <|
 kChk g28 (oLd false 1 g27) <|
 kD p26 (o_add g21 g25) <|
 kD p29 (o_add g26 g28) <|
 kCall p30 (cF 98 (aC g10 (aC g29 aN))) <|
 kD p31 (o_eql g30 (ci 0)) <|
 kD p4 (oMov g31) <|
 kRet,
 (r1 g4)⟩
/-- (*wimple/wimpleref4.Writer).All -/
noncomputable def k102 : FnK := ⟨kD p2 (oMov (kV (.str []))) <|
 kD p3 (oMov g0) <|
 kD p4 (oNil g3) <|
 kD p5 (oFld 0 g4) <|
 kD p6 (oLd false 1 g5) <|
 kD p2 (oMov g6) <|
 kRet,
 (r1 g2)⟩
/-- wimple/wimpleref1.Num -/
noncomputable def k104 : FnK := ⟨kD p6 (oMov (ci 0)) <|
 kD p7 (oMov (ci 0)) <|
 kD p8 (oMov (ci 0)) <|
 kSeq (kD p11 (oMov g1) <|
 kD p12 (o_lss g11 (ci 0)) <|
 kD p13 (oMov g12) <|
 kD p14 (oG g13 false (oMov g1)) <|
 kD p15 (oG g13 false (oMov g0)) <|
 kD p16 (oG g13 false (oLenT g15)) <|
 kD p17 (oG g13 false (o_gtr g14 g16)) <|
 kD p18 (oPick g13 (kV (.bool true)) g17) <|
 kD p19 (oMov g18) <|
 kD p20 (oG g19 false (oMov g2)) <|
 kD p21 (oG g19 false (oMov g0)) <|
 kD p22 (oG g19 false (oLenT g21)) <|
 kD p23 (oG g19 false (oMov g1)) <|
 kD p24 (oG g19 false (o_sub g22 g23)) <|
 kD p25 (oG g19 false (o_gtr g20 g24)) <|
 kD p26 (oPick g19 (kV (.bool true)) g25) <|
 kCond g26 (kD p6 (oMov (ci 0)) <|
 kD p7 (oMov (ci 0)) <|
 kD p8 (oMov (ci 300)) <|
 kRet) <|
 kEnd) <|
 kD p9 (oMov (ci 0)) <|
 kSeq (kD p10 (oMov (ci 0)) <|
 kBlock 0 <|
 kLoop <|
 kSeq (kD p27 (oMov g10) <|
 kD p28 (oMov g2) <|
 kD p29 (o_lss g27 g28) <|
 kCond g29 (kEnd) <|
 kExit 0) <|
 kSeq (kBlock 1 <|
 kD p32 (oMov g9) <|
 kD p33 (o_shl g32 (kV (.int .u64 (.c (.ofNat 8))))) <|
 kD p34 (oMov g0) <|
 kD p35 (oMov g1) <|
 kD p36 (oMov g10) <|
 kD p37 (o_add g35 g36) <|
 kD p38 (oIdxs g34 g37) <|
 kD p39 (oCvti .i64 g38) <|
 kD p40 (o_or g33 g39) <|
 kD p9 (oMov g40) <|
 kEnd) <|
 kD p30 (oMov g10) <|
 kD p31 (o_add g30 (ci 1)) <|
 kD p10 (oMov g31) <|
 kEnd) <|
 kD p41 (oMov g9) <|
 kD p42 (oMov g1) <|
 kD p43 (oMov g2) <|
 kD p44 (o_add g42 g43) <|
 kD p6 (oMov g41) <|
 kD p7 (oMov g44) <|
 kD p8 (oMov (ci 0)) <|
 kRet,
 (r3 g6 g7 g8)⟩
/-- wimple/wimpleref4.Name -/
noncomputable def k105 : FnK := ⟨kD p4 (oMov (kV (.str []))) <|
 kD p5 (oMov (ci 0)) <|
 kD p6 (oMov (ci 0)) <|
 kSeq (kD p14 (oMov g1) <|
 kD p15 (o_lss g14 (ci 0)) <|
 kCond g15 (kD p4 (oMov (kV (.str []))) <|
 kD p5 (oMov (ci 0)) <|
 kD p6 (oMov (ci 500)) <|
 kRet) <|
 kEnd) <|
 kD p7 (oMov (kV (.str []))) <|
 kD p16 (oMov g1) <|
 kD p8 (oMov g16) <|
 kD p9 (oMov (kV (.int .i64 (.c (.negSucc 0))))) <|
 kSeq (kBlock 0 <|
 kLoop <|
 kSeq (kD p17 (oMov g1) <|
 kD p18 (oMov g0) <|
 kD p19 (oLenT g18) <|
 kD p20 (o_lss g17 g19) <|
 kD p21 (oMov g20) <|
 kD p22 (oG g21 true (oMov g7)) <|
 kD p23 (oG g21 true (oLenT g22)) <|
 kD p24 (oG g21 true (o_leq g23 (ci 255))) <|
 kD p25 (oPick g21 g24 (kV (.bool false))) <|
 kCond g25 (kEnd) <|
 kExit 0) <|
 kBlock 1 <|
 kD p26 (oMov g0) <|
 kD p27 (oMov g1) <|
 kD p28 (oIdxs g26 g27) <|
 kD p29 (oCvti .i64 g28) <|
 kD p10 (oMov g29) <|
 kBlock 2 <|
 kD p44 (oMov g10) <|
 kD p45 (o_eql g44 (ci 0)) <|
 kD p43 (oMov g45) <|
 kCond g43 (kSeq (kD p46 (oMov g9) <|
 kD p47 (o_lss g46 (ci 0)) <|
 kCond g47 (kD p48 (oMov g1) <|
 kD p49 (o_add g48 (ci 1)) <|
 kD p9 (oMov g49) <|
 kEnd) <|
 kEnd) <|
 kD p50 (oMov g7) <|
 kD p51 (o_add g50 (kV (.str [0]))) <|
 kD p7 (oMov g51) <|
 kSeq (kD p52 (oMov g7) <|
 kCall p53 (cF 164 (aC g52 aN)) <|
 kD p54 (oNot g53) <|
 kCond g54 (kD p4 (oMov (kV (.str []))) <|
 kD p5 (oMov (ci 0)) <|
 kD p6 (oMov (ci 500)) <|
 kRet) <|
 kEnd) <|
 kD p55 (oMov g7) <|
 kD p56 (oMov g9) <|
 kD p4 (oMov g55) <|
 kD p5 (oMov g56) <|
 kD p6 (oMov (ci 0)) <|
 kRet) <|
 kD p58 (oMov g10) <|
 kD p59 (o_gtr g58 (ci 191)) <|
 kD p57 (oMov g59) <|
 kCond g57 (kD p61 (oMov g0) <|
 kD p62 (oMov g1) <|
 kCall p63 (cF 104 (aC g61 (aC g62 (aC (ci 2) aN)))) <|
 kD p60 (oMov g63) <|
 kD p64 (oExt g60 0) <|
 kD p65 (oExt g60 1) <|
 kD p66 (oExt g60 2) <|
 kD p11 (oMov g64) <|
 kD p12 (oMov g65) <|
 kD p13 (oMov g66) <|
 kSeq (kD p67 (oMov g13) <|
 kD p68 (o_neq g67 (ci 0)) <|
 kD p69 (oMov g68) <|
 kD p70 (oG g69 false (oMov g11)) <|
 kD p71 (oG g69 false (o_and g70 (ci 16383))) <|
 kD p72 (oG g69 false (oMov g8)) <|
 kD p73 (oG g69 false (o_geq g71 g72)) <|
 kD p74 (oPick g69 (kV (.bool true)) g73) <|
 kCond g74 (kD p4 (oMov (kV (.str []))) <|
 kD p5 (oMov (ci 0)) <|
 kD p6 (oMov (ci 500)) <|
 kRet) <|
 kEnd) <|
 kSeq (kD p75 (oMov g9) <|
 kD p76 (o_lss g75 (ci 0)) <|
 kCond g76 (kD p77 (oMov g12) <|
 kD p9 (oMov g77) <|
 kEnd) <|
 kEnd) <|
 kD p78 (oMov g11) <|
 kD p79 (o_and g78 (ci 16383)) <|
 kD p1 (oMov g79) <|
 kD p80 (oMov g1) <|
 kD p8 (oMov g80) <|
 kEnd) <|
 kD p82 (oMov g10) <|
 kD p83 (o_gtr g82 (ci 63)) <|
 kD p84 (oMov g83) <|
 kD p85 (oG g84 false (oMov g10)) <|
 kD p86 (oG g84 false (oMov g0)) <|
 kD p87 (oG g84 false (oLenT g86)) <|
 kD p88 (oG g84 false (oMov g1)) <|
 kD p89 (oG g84 false (o_sub g87 g88)) <|
 kD p90 (oG g84 false (o_sub g89 (ci 1))) <|
 kD p91 (oG g84 false (o_gtr g85 g90)) <|
 kD p92 (oPick g84 (kV (.bool true)) g91) <|
 kD p81 (oMov g92) <|
 kCond g81 (kD p4 (oMov (kV (.str []))) <|
 kD p5 (oMov (ci 0)) <|
 kD p6 (oMov (ci 500)) <|
 kRet) <|
 kD p30 (oMov g7) <|
 kD p31 (oMov g0) <|
 kD p32 (oMov g1) <|
 kD p33 (oMov g1) <|
 kD p34 (o_add g33 (ci 1)) <|
 kD p35 (oMov g10) <|
 kD p36 (o_add g34 g35) <|
 kD p37 (oSlc 0 g31 (some g32) (some g36) (oPs (.slc 0 (.t s31) (some (.t s32)) (some (.t s36)) none))) <|
 kD p38 (o_add g30 g37) <|
 kD p7 (oMov g38) <|
 kD p39 (oMov g1) <|
 kD p40 (o_add g39 (ci 1)) <|
 kD p41 (oMov g10) <|
 kD p42 (o_add g40 g41) <|
 kD p1 (oMov g42) <|
 kEnd) <|
 kD p4 (oMov (kV (.str []))) <|
 kD p5 (oMov (ci 0)) <|
 kD p6 (oMov (ci 500)) <|
 kRet,
 (r3 g4 g5 g6)⟩
/-- wimple/wimpleref4.Data -/
noncomputable def k106 : FnK := ⟨kD p8 (oMov (kV (.str []))) <|
 kD p9 (oMov (ci 0)) <|
 kSeq (kD p17 (oMov g1) <|
 kD p18 (o_lss g17 (ci 0)) <|
 kD p19 (oMov g18) <|
 kD p20 (oG g19 false (oMov g2)) <|
 kD p21 (oG g19 false (o_lss g20 (ci 0))) <|
 kD p22 (oPick g19 (kV (.bool true)) g21) <|
 kD p23 (oMov g22) <|
 kD p24 (oG g23 false (oMov g1)) <|
 kD p25 (oG g23 false (oMov g0)) <|
 kD p26 (oG g23 false (oLenT g25)) <|
 kD p27 (oG g23 false (o_gtr g24 g26)) <|
 kD p28 (oPick g23 (kV (.bool true)) g27) <|
 kD p29 (oMov g28) <|
 kD p30 (oG g29 false (oMov g2)) <|
 kD p31 (oG g29 false (oMov g0)) <|
 kD p32 (oG g29 false (oLenT g31)) <|
 kD p33 (oG g29 false (oMov g1)) <|
 kD p34 (oG g29 false (o_sub g32 g33)) <|
 kD p35 (oG g29 false (o_gtr g30 g34)) <|
 kD p36 (oPick g29 (kV (.bool true)) g35) <|
 kCond g36 (kD p8 (oMov (kV (.str []))) <|
 kD p9 (oMov (ci 500)) <|
 kRet) <|
 kEnd) <|
 kD p37 (oMov g1) <|
 kD p10 (oMov (kV (.str []))) <|
 kD p11 (oMov g37) <|
 kD p12 (oMov (ci 0)) <|
 kSeq (kD p38 (oMov g3) <|
 kBlock 0 <|
 kSeq (kD p40 (o_eql g38 (ci 2)) <|
 kD p39 (oMov g40) <|
 kCond g39 (kEnd) <|
 kD p41 (o_eql g38 (ci 5)) <|
 kD p39 (oMov g41) <|
 kCond g39 (kEnd) <|
 kD p42 (o_eql g38 (ci 12)) <|
 kD p39 (oMov g42) <|
 kEnd) <|
 kCond g39 (kD p12 (oMov (ci 1)) <|
 kEnd) <|
 kD p44 (o_eql g38 (ci 15)) <|
 kD p43 (oMov g44) <|
 kCond g43 (kSeq (kD p45 (oMov g2) <|
 kD p46 (o_lss g45 (ci 2)) <|
 kCond g46 (kD p8 (oMov (kV (.str []))) <|
 kD p9 (oMov (ci 500)) <|
 kRet) <|
 kEnd) <|
 kD p12 (oMov (ci 1)) <|
 kD p47 (oMov g0) <|
 kD p48 (oMov g1) <|
 kD p49 (oMov g1) <|
 kD p50 (o_add g49 (ci 2)) <|
 kD p51 (oSlc 0 g47 (some g48) (some g50) (oPs (.slc 0 (.t s47) (some (.t s48)) (some (.t s50)) none))) <|
 kD p10 (oMov g51) <|
 kD p52 (oMov g1) <|
 kD p53 (o_add g52 (ci 2)) <|
 kD p11 (oMov g53) <|
 kEnd) <|
 kD p55 (o_eql g38 (ci 6)) <|
 kD p54 (oMov g55) <|
 kCond g54 (kD p12 (oMov (ci 2)) <|
 kEnd) <|
 kEnd) <|
 kSeq (kD p13 (oMov (ci 0)) <|
 kBlock 1 <|
 kLoop <|
 kSeq (kD p56 (oMov g13) <|
 kD p57 (oMov g12) <|
 kD p58 (o_lss g56 g57) <|
 kCond g58 (kEnd) <|
 kExit 1) <|
 kSeq (kBlock 2 <|
 kD p62 (oMov g0) <|
 kD p63 (oMov g11) <|
 kCall p64 (cF 105 (aC g62 (aC g63 aN))) <|
 kD p61 (oMov g64) <|
 kD p65 (oExt g61 0) <|
 kD p66 (oExt g61 1) <|
 kD p67 (oExt g61 2) <|
 kD p14 (oMov g65) <|
 kD p15 (oMov g66) <|
 kD p16 (oMov g67) <|
 kSeq (kD p68 (oMov g16) <|
 kD p69 (o_neq g68 (ci 0)) <|
 kD p70 (oMov g69) <|
 kD p71 (oG g70 false (oMov g15)) <|
 kD p72 (oG g70 false (oMov g1)) <|
 kD p73 (oG g70 false (oMov g2)) <|
 kD p74 (oG g70 false (o_add g72 g73)) <|
 kD p75 (oG g70 false (o_gtr g71 g74)) <|
 kD p76 (oPick g70 (kV (.bool true)) g75) <|
 kCond g76 (kD p8 (oMov (kV (.str []))) <|
 kD p9 (oMov (ci 500)) <|
 kRet) <|
 kEnd) <|
 kD p77 (oMov g10) <|
 kD p78 (oMov g14) <|
 kD p79 (o_add g77 g78) <|
 kD p10 (oMov g79) <|
 kD p80 (oMov g15) <|
 kD p11 (oMov g80) <|
 kEnd) <|
 kD p59 (oMov g13) <|
 kD p60 (o_add g59 (ci 1)) <|
 kD p13 (oMov g60) <|
 kEnd) <|
 kD p81 (oMov g10) <|
 kD p82 (oMov g0) <|
 kD p83 (oMov g11) <|
 kD p84 (oMov g1) <|
 kD p85 (oMov g2) <|
 kD p86 (o_add g84 g85) <|
 kD p87 (oSlc 0 g82 (some g83) (some g86) (oPs (.slc 0 (.t s82) (some (.t s83)) (some (.t s86)) none))) <|
 kD p88 (o_add g81 g87) <|
 kD p10 (oMov g88) <|
 kSeq (kD p89 (oMov g3) <|
 kD p90 (oMov g10) <|
 kCall p91 (cF 172 (aC g89 (aC g90 aN))) <|
 kD p92 (oNot g91) <|
 kD p93 (oMov g92) <|
 kD p94 (oG g93 false (oMov g12)) <|
 kD p95 (oG g93 false (o_gtr g94 (ci 0))) <|
 kD p96 (oG g93 false (oMov g95)) <|
 kD p97 (oG g96 true (oMov g3)) <|
 kD p98 (oG g96 true (o_neq g97 (ci 6))) <|
 kD p99 (oG g93 false (oPick g96 g98 (kV (.bool false)))) <|
 kD p100 (oG g93 false (oMov g99)) <|
 kD p101 (oG g100 true (oMov g11)) <|
 kD p102 (oG g100 true (oMov g1)) <|
 kD p103 (oG g100 true (oMov g2)) <|
 kD p104 (oG g100 true (o_add g102 g103)) <|
 kD p105 (oG g100 true (o_neq g101 g104)) <|
 kD p106 (oG g93 false (oPick g100 g105 (kV (.bool false)))) <|
 kD p107 (oPick g93 (kV (.bool true)) g106) <|
 kCond g107 (kD p8 (oMov (kV (.str []))) <|
 kD p9 (oMov (ci 500)) <|
 kRet) <|
 kEnd) <|
 kD p108 (oMov g10) <|
 kD p8 (oMov g108) <|
 kD p9 (oMov (ci 0)) <|
 kRet,
 (r2 g8 g9)⟩
/-- wimple/task.Lost -/
noncomputable def k107 : FnK := ⟨kD p3 (oBox g0) <|
 kD p6 (oAlloc [(.str []), (vi 0), (.str []), (.str []), (vi 0), (.bool false), (vi 0), (vi 0)]) <|
 kD p7 (oMov (ci 0)) <|
 kD p8 (oMov (ci 0)) <|
 kSeq (kD p9 (oMov g1) <|
 kD p10 (o_lss g9 (ci 1)) <|
 kD p11 (oMov g10) <|
 kD p12 (oG g11 false (oMov g2)) <|
 kD p13 (oG g11 false (o_lss g12 (ci 1))) <|
 kD p14 (oPick g11 (kV (.bool true)) g13) <|
 kD p15 (oMov g14) <|
 kD p16 (oG g15 false (oFld 6 g3)) <|
 kD p17 (oG g15 false (oLd false 1 g16)) <|
 kD p18 (oG g15 false (o_lss g17 (ci 0))) <|
 kD p19 (oPick g15 (kV (.bool true)) g18) <|
 kD p20 (oMov g19) <|
 kD p21 (oG g20 false (oFld 6 g3)) <|
 kD p22 (oG g20 false (oLd false 1 g21)) <|
 kD p23 (oG g20 false (o_gtr g22 (ci 1000))) <|
 kD p24 (oPick g20 (kV (.bool true)) g23) <|
 kD p25 (oMov g24) <|
 kD p26 (oG g25 false (oFld 7 g3)) <|
 kD p27 (oG g25 false (oLd false 1 g26)) <|
 kD p28 (oG g25 false (o_lss g27 (ci 0))) <|
 kD p29 (oPick g25 (kV (.bool true)) g28) <|
 kD p30 (oMov g29) <|
 kD p31 (oG g30 false (oFld 7 g3)) <|
 kD p32 (oG g30 false (oLd false 1 g31)) <|
 kD p33 (oG g30 false (o_gtr g32 (ci 1000))) <|
 kD p34 (oPick g30 (kV (.bool true)) g33) <|
 kCond g34 (kD p35 (oBuild [(.str []), (vi 0), (.str []), (.str []), (vi 0), (.bool false), (vi 0), (vi 0)] bN) <|
 kD0 (oSt 8 g6 g35) <|
 kD p7 (oMov (ci 0)) <|
 kD p8 (oMov (ci 2200)) <|
 kRet) <|
 kEnd) <|
 kSeq (kD p36 (oFld 6 g3) <|
 kD p37 (oLd false 1 g36) <|
 kD p38 (o_add g37 (ci 1)) <|
 kD p39 (oFld 6 g3) <|
 kD0 (oSt 1 g39 g38) <|
 kD p40 (oFld 6 g3) <|
 kD p41 (oLd false 1 g40) <|
 kD p42 (oMov g1) <|
 kD p43 (o_lss g41 g42) <|
 kCond g43 (kD p44 (oLd true 8 g3) <|
 kD0 (oSt 8 g6 g44) <|
 kD p7 (oMov (ci 0)) <|
 kD p8 (oMov (ci 0)) <|
 kRet) <|
 kEnd) <|
 kSeq (kD p45 (oFld 7 g3) <|
 kD p46 (oLd false 1 g45) <|
 kD p47 (o_add g46 (ci 1)) <|
 kD p48 (oFld 7 g3) <|
 kD0 (oSt 1 g48 g47) <|
 kD p49 (oFld 7 g3) <|
 kD p50 (oLd false 1 g49) <|
 kD p51 (oMov g2) <|
 kD p52 (o_lss g50 g51) <|
 kCond g52 (kD p53 (oFld 6 g3) <|
 kD0 (oSt 1 g53 (ci 0)) <|
 kD p54 (oLd true 8 g3) <|
 kD0 (oSt 8 g6 g54) <|
 kD p7 (oMov (ci 0)) <|
 kD p8 (oMov (ci 0)) <|
 kRet) <|
 kEnd) <|
 kD p55 (oMov g1) <|
 kD p56 (oFld 6 g3) <|
 kD0 (oSt 1 g56 g55) <|
 kD p57 (oLd true 8 g3) <|
 kD0 (oSt 8 g6 g57) <|
 kD p7 (oMov (ci 2)) <|
 kD p8 (oMov (ci 0)) <|
 kRet,
 (rS [.cell s6 true 8, .tmp s7, .tmp s8])⟩
/-- wimple/rel.Above -/
noncomputable def k108 : FnK := ⟨kD p4 (oMov (kV (.bool false))) <|
 kD p11 (oMov g0) <|
 kCall p12 (cF 77 (aC g11 aN)) <|
 kD p13 (oMov g1) <|
 kCall p14 (cF 77 (aC g13 aN)) <|
 kD p5 (oMov g12) <|
 kD p6 (oMov g14) <|
 kD p16 (oMov g6) <|
 kCall p17 (cF 129 (aC g16 aN)) <|
 kD p15 (oMov g17) <|
 kD p18 (oExt g15 0) <|
 kD p19 (oExt g15 1) <|
 kD p7 (oMov g18) <|
 kD p8 (oMov g19) <|
 kSeq (kD p20 (oMov g7) <|
 kD p21 (oLenS g20) <|
 kD p22 (oMov (ci 0)) <|
 kBlock 0 <|
 kLoop <|
 kD p23 (o_lss g22 g21) <|
 kSeq (kCond g23 (kEnd) <|
 kExit 0) <|
 kSeq (kBlock 1 <|
 kD p24 (oIdx 1 g20 g22) <|
 kD p25 (oLd false 1 g24) <|
 kD p10 (oMov g25) <|
 kD p26 (oMov g5) <|
 kD p27 (o_neq g26 (kV (.str []))) <|
 kD p28 (oMov g27) <|
 kD p29 (oG g28 true (oMov g6)) <|
 kD p30 (oG g28 true (oMov g10)) <|
 kD p31 (oG g28 true (oSlc 0 g29 (some g30) none (oPs (.slc 0 (.t s29) (some (.t s30)) none none)))) <|
 kD p32 (oG g28 true (oMov g5)) <|
 kD p33 (oG g28 true (o_eql g31 g32)) <|
 kD p34 (oPick g28 g33 (kV (.bool false))) <|
 kCond g34 (kD p4 (oMov (kV (.bool true))) <|
 kRet) <|
 kEnd) <|
 kD p35 (o_add g22 (ci 1)) <|
 kD p22 (oMov g35) <|
 kEnd) <|
 kD p4 (oMov (kV (.bool false))) <|
 kRet,
 (r1 g4)⟩
/-- (*wimple/store.Store).Get -/
noncomputable def k109 : FnK := ⟨kD p8 (oAlloc [(.str []), (vi 0), (vi 0), (.ref .nilsl)]) <|
 kD p9 (oMov (ci 0)) <|
 kD p10 (oMov (ci 0)) <|
 kSeq (kD p13 (oMov g0) <|
 kD p14 (oPs (.eqx false .p (.t s13) (.k (.ref .nilptr)))) <|
 kCond g14 (kD p15 (oBuild [(.str []), (vi 0), (vi 0), (.ref .nilsl)] bN) <|
 kD0 (oSt 4 g8 g15) <|
 kD p9 (oMov (ci 0)) <|
 kD p10 (oMov (ci 1)) <|
 kRet) <|
 kEnd) <|
 kD p17 (oMov g0) <|
 kD p18 (oNil g17) <|
 kD p19 (oFld 1 g18) <|
 kD p20 (oLd false 1 g19) <|
 kD p21 (oMov g1) <|
 kD p23 (oMov g2) <|
 kD p11 (oAlloc [(.str []), (vi 0), (vi 0), (.ref .nilsl), (vi 0), (vi 0)]) <|
 kCall p22 (cF 77 (aC g21 aN)) <|
 kChk g20 (oLd false 1 g19) <|
 kD p24 (oBuild [(.str []), (vi 0)] (bC 0 1 g22 (bC 1 1 g23 bN))) <|
 kD p25 (oRs (.lkp ⟨true, [.str, (.int .i64)]⟩ true (.lst .agg [(.str []), (vi 0), (vi 0), (.ref .nilsl), (vi 0), (vi 0)]) (.t s20) (.t s24))) <|
 kD p16 (oMov g25) <|
 kD p26 (oExt g16 0) <|
 kD p27 (oExt g16 1) <|
 kD0 (oSt 6 g11 g26) <|
 kD p12 (oMov g27) <|
 kSeq (kD p28 (oMov g12) <|
 kD p29 (oNot g28) <|
 kD p30 (oMov g29) <|
 kD p31 (oG g30 false (oMov g3)) <|
 kD p32 (oG g30 false (oFld 5 g11)) <|
 kD p33 (oG g30 false (oLd false 1 g32)) <|
 kD p34 (oG g30 false (o_geq g31 g33)) <|
 kD p35 (oPick g30 (kV (.bool true)) g34) <|
 kCond g35 (kD p36 (oBuild [(.str []), (vi 0), (vi 0), (.ref .nilsl)] bN) <|
 kD0 (oSt 4 g8 g36) <|
 kD p9 (oMov (ci 0)) <|
 kD p10 (oMov (ci 1301)) <|
 kRet) <|
 kEnd) <|
 kD p37 (oFld 5 g11) <|
 kD p38 (oLd false 1 g37) <|
 kD p39 (oMov g3) <|
 kD p40 (o_sub g38 g39) <|
 kD p41 (oFld 0 g11) <|
 kD p42 (oFld 3 g41) <|
 kD p43 (oLd false 1 g42) <|
 kD p45 (oFld 0 g11) <|
 kD p46 (oFld 2 g45) <|
 kCall p44 (cF 38 (aC g43 aN)) <|
 kChk g38 (oLd false 1 g37) <|
 kD0 (oSt 1 g46 g40) <|
 kD p47 (oFld 0 g11) <|
 kD p48 (oFld 3 g47) <|
 kD0 (oSt 1 g48 g44) <|
 kD p49 (oFld 0 g11) <|
 kD p50 (oLd true 4 g49) <|
 kD p51 (oFld 4 g11) <|
 kD p52 (oLd false 1 g51) <|
 kD0 (oSt 4 g8 g50) <|
 kChk g52 (oLd false 1 g51) <|
 kD p9 (oMov g52) <|
 kD p10 (oMov (ci 0)) <|
 kRet,
 (rS [.cell s8 true 4, .tmp s9, .tmp s10])⟩
/-- (*wimple/neg.Negs).Nx -/
noncomputable def k110 : FnK := ⟨kD p6 (oMov (kV (.bool false))) <|
 kD p7 (oMov g0) <|
 kD p8 (oMov g1) <|
 kD p9 (oMov g2) <|
 kCall p10 (cF 173 (aC g7 (aC g8 (aC (ci 0) (aC g9 aN))))) <|
 kD p6 (oMov g10) <|
 kRet,
 (r1 g6)⟩
/-- (*wimple/neg.Negs).Nodata -/
noncomputable def k111 : FnK := ⟨kD p8 (oMov (kV (.bool false))) <|
 kD p9 (oMov g2) <|
 kD p10 (o_geq g9 (ci 1)) <|
 kD p11 (oMov g10) <|
 kD p12 (oG g11 true (oMov g0)) <|
 kD p13 (oG g11 true (oMov g1)) <|
 kD p14 (oG g11 true (oMov g2)) <|
 kD p15 (oG g11 true (oMov g3)) <|
 kCall p16 (cG g11 true (cF 173 (aC g12 (aC g13 (aC g14 (aC g15 aN)))))) <|
 kD p17 (oPick g11 g16 (kV (.bool false))) <|
 kD p8 (oMov g17) <|
 kRet,
 (r1 g8)⟩
/-- (*wimple/cuts.Cuts).Deepest -/
noncomputable def k112 : FnK := ⟨kD p6 (oMov (kV (.str []))) <|
 kSeq (kD p14 (oMov g0) <|
 kD p15 (oPs (.eqx false .p (.t s14) (.k (.ref .nilptr)))) <|
 kCond g15 (kD p6 (oMov (kV (.str []))) <|
 kRet) <|
 kEnd) <|
 kD p16 (oMov g1) <|
 kCall p17 (cF 77 (aC g16 aN)) <|
 kD p7 (oMov g17) <|
 kD p19 (oMov g7) <|
 kCall p20 (cF 129 (aC g19 aN)) <|
 kD p18 (oMov g20) <|
 kD p21 (oExt g18 0) <|
 kD p22 (oExt g18 1) <|
 kD p8 (oMov g21) <|
 kD p9 (oMov g22) <|
 kSeq (kD p23 (oMov g8) <|
 kD p24 (oLenS g23) <|
 kD p25 (oMov (ci 0)) <|
 kBlock 0 <|
 kLoop <|
 kD p26 (o_lss g25 g24) <|
 kSeq (kCond g26 (kEnd) <|
 kExit 0) <|
 kSeq (kBlock 1 <|
 kD p27 (oIdx 1 g23 g25) <|
 kD p28 (oLd false 1 g27) <|
 kD p11 (oMov g28) <|
 kD p30 (oMov g0) <|
 kD p31 (oNil g30) <|
 kD p32 (oFld 4 g31) <|
 kD p33 (oLd false 1 g32) <|
 kD p34 (oMov g7) <|
 kD p35 (oMov g11) <|
 kD p36 (oSlc 0 g34 (some g35) none (oPs (.slc 0 (.t s34) (some (.t s35)) none none))) <|
 kD p37 (oRs (.lkp ⟨false, [.str]⟩ true (.ref .nilptr) (.t s33) (.t s36))) <|
 kD p29 (oMov g37) <|
 kD p38 (oExt g29 0) <|
 kD p39 (oExt g29 1) <|
 kD p12 (oMov g38) <|
 kD p13 (oMov g39) <|
 kD p40 (oMov g13) <|
 kD p41 (oMov g40) <|
 kD p42 (oG g41 true (oMov g2)) <|
 kD p43 (oG g41 true (oMov g12)) <|
 kD p44 (oG g41 true (oNil g43)) <|
 kD p45 (oG g41 true (oFld 2 g44)) <|
 kD p46 (oG g41 true (oLd false 1 g45)) <|
 kD p47 (oG g41 true (o_lss g42 g46)) <|
 kD p48 (oPick g41 g47 (kV (.bool false))) <|
 kCond g48 (kD p49 (oMov g7) <|
 kD p50 (oMov g11) <|
 kD p51 (oSlc 0 g49 (some g50) none (oPs (.slc 0 (.t s49) (some (.t s50)) none none))) <|
 kD p6 (oMov g51) <|
 kRet) <|
 kEnd) <|
 kD p52 (o_add g25 (ci 1)) <|
 kD p25 (oMov g52) <|
 kEnd) <|
 kD p6 (oMov (kV (.str [0]))) <|
 kRet,
 (r1 g6)⟩
/-- wimple/rel.Same -/
noncomputable def k113 : FnK := ⟨kD p4 (oMov (kV (.bool false))) <|
 kD p7 (oMov g0) <|
 kCall p8 (cF 77 (aC g7 aN)) <|
 kD p9 (oMov g1) <|
 kCall p10 (cF 77 (aC g9 aN)) <|
 kD p5 (oMov g8) <|
 kD p6 (oMov g10) <|
 kD p11 (oMov g5) <|
 kD p12 (o_neq g11 (kV (.str []))) <|
 kD p13 (oMov g12) <|
 kD p14 (oG g13 true (oMov g5)) <|
 kD p15 (oG g13 true (oMov g6)) <|
 kD p16 (oG g13 true (o_eql g14 g15)) <|
 kD p17 (oPick g13 g16 (kV (.bool false))) <|
 kD p4 (oMov g17) <|
 kRet,
 (r1 g4)⟩
/-- slices.Clone[[]wimple/api.Binding,wimple/api.Binding] -/
noncomputable def k114 : FnK := ⟨kD p2 (oMov (kV (.ref .nilsl))) <|
 kSeq (kD p3 (oMov g0) <|
 kD p4 (oPs (.eqx false .s (.t s3) (.k (.ref .nilsl)))) <|
 kCond g4 (kD p2 (oMov (kV (.ref .nilsl))) <|
 kRet) <|
 kEnd) <|
 kD p5 (oAs (.bsl true true 0 5 0 [(.str []), (.str []), (vi 0), (.str []), (vi 0)] [])) <|
 kD p6 (oMov g0) <|
 kD p7 (oEs (.app true true 0 5 (.t s5) (.t s6))) <|
 kD p2 (oMov g7) <|
 kRet,
 (r1 g2)⟩
/-- (*wimple/cuts.Cuts).find -/
noncomputable def k115 : FnK := ⟨kD p6 (oMov (kV (.ref .nilptr))) <|
 kSeq (kD p10 (oMov g0) <|
 kD p11 (oNil g10) <|
 kD p12 (oFld 4 g11) <|
 kD p13 (oLd false 1 g12) <|
 kD p14 (oMov g1) <|
 kCall p15 (cF 77 (aC g14 aN)) <|
 kChk g13 (oLd false 1 g12) <|
 kD p16 (oRs (.lkp ⟨false, [.str]⟩ true (.ref .nilptr) (.t s13) (.t s15))) <|
 kD p9 (oMov g16) <|
 kD p17 (oExt g9 0) <|
 kD p18 (oExt g9 1) <|
 kD p7 (oMov g17) <|
 kD p8 (oMov g18) <|
 kD p19 (oMov g8) <|
 kD p20 (oMov g19) <|
 kD p21 (oG g20 true (oMov g2)) <|
 kD p22 (oG g20 true (oMov g7)) <|
 kD p23 (oG g20 true (oNil g22)) <|
 kD p24 (oG g20 true (oFld 2 g23)) <|
 kD p25 (oG g20 true (oLd false 1 g24)) <|
 kD p26 (oG g20 true (o_lss g21 g25)) <|
 kD p27 (oPick g20 g26 (kV (.bool false))) <|
 kCond g27 (kD p28 (oMov g7) <|
 kD p6 (oMov g28) <|
 kRet) <|
 kEnd) <|
 kD p6 (oMov (kV (.ref .nilptr))) <|
 kRet,
 (r1 g6)⟩
/-- (*wimple/cuts.cut).live -/
noncomputable def k116 : FnK := ⟨kD p3 (oBox g1) <|
 kD p4 (oMov (kV (.ref .nilsl))) <|
 kD p5 (oMov g0) <|
 kD p6 (oNil g5) <|
 kD p7 (oFld 1 g6) <|
 kD p8 (oLd false 1 g7) <|
 kCall p9 (cF 114 (aC g8 aN)) <|
 kD p10 (oPs (.mkf 175 [] [(.t s3)])) <|
 kCall p11 (cF 174 (aC g9 (aC g10 aN))) <|
 kD p4 (oMov g11) <|
 kRet,
 (r1 g4)⟩
/-- (*wimple/job.Job).Spend -/
noncomputable def k117 : FnK := ⟨kD p2 (oMov (kV (.bool false))) <|
 kSeq (kD p3 (oMov g0) <|
 kD p4 (oPs (.eqx false .p (.t s3) (.k (.ref .nilptr)))) <|
 kD p5 (oMov g4) <|
 kD p6 (oG g5 false (oMov g0)) <|
 kD p7 (oG g5 false (oNil g6)) <|
 kD p8 (oG g5 false (oFld 4 g7)) <|
 kD p9 (oG g5 false (oLd false 1 g8)) <|
 kD p10 (oG g5 false (o_eql g9 (ci 0))) <|
 kD p11 (oPick g5 (kV (.bool true)) g10) <|
 kCond g11 (kD p2 (oMov (kV (.bool false))) <|
 kRet) <|
 kEnd) <|
 kD p12 (oMov g0) <|
 kD p13 (oNil g12) <|
 kD p14 (oFld 4 g13) <|
 kD p15 (oLd false 1 g14) <|
 kD p16 (o_sub g15 (ci 1)) <|
 kD p17 (oNil g12) <|
 kD p18 (oFld 4 g17) <|
 kD0 (oSt 1 g18 g16) <|
 kD p2 (oMov (kV (.bool true))) <|
 kRet,
 (r1 g2)⟩
/-- (*wimple/iter.Resolver).over -/
noncomputable def k118 : FnK := ⟨kD p6 (oMov (kV (.bool false))) <|
 kD p8 (oMov g1) <|
 kD p9 (oNil g8) <|
 kD p10 (oFld 0 g9) <|
 kD p11 (oLd false 1 g10) <|
 kD p12 (oMov g2) <|
 kD p13 (oBuild [(vi 0), (vi 0), (.ref .nilsl)] (bC 0 1 g11 (bC 1 1 g12 bN))) <|
 kD p7 (oAlloc [(vi 0), (vi 0), (.ref .nilsl)]) <|
 kD0 (oSt 3 g7 g13) <|
 kSeq (kD p14 (oMov g2) <|
 kD p15 (o_neq g14 (ci 2)) <|
 kCond g15 (kD p16 (oMov g1) <|
 kD p17 (oNil g16) <|
 kD p18 (oFld 6 g17) <|
 kD p19 (oLd false 1 g18) <|
 kD p20 (oFld 2 g7) <|
 kD0 (oSt 1 g20 g19) <|
 kEnd) <|
 kEnd) <|
 kD p21 (oMov g0) <|
 kD p22 (oMov g0) <|
 kD p23 (oNil g22) <|
 kD p24 (oFld 20 g23) <|
 kD p25 (oLd false 1 g24) <|
 kD p26 (oLd true 3 g7) <|
 kD p27 (oAs (.bsl false true 0 3 1 [(vi 0), (vi 0), (.ref .nilsl)] [(0, (.t s26))])) <|
 kD p28 (oApp 0 3 g25 g27 (oEs (.app false true 0 3 (.t s25) (.t s27)))) <|
 kD p29 (oNil g21) <|
 kD p30 (oFld 20 g29) <|
 kD0 (oSt 1 g30 g28) <|
 kD p31 (oMov g0) <|
 kD p32 (oNil g31) <|
 kD p33 (oFld 17 g32) <|
 kD p34 (oLd false 1 g33) <|
 kD p35 (oMov g1) <|
 kD p36 (oNil g35) <|
 kD p37 (oFld 0 g36) <|
 kD p38 (oLd false 1 g37) <|
 kD0 (oEs (.del ⟨false, [(.int .i64)]⟩ (.t s34) (.t s38))) <|
 kD p6 (oMov (kV (.bool false))) <|
 kRet,
 (r1 g6)⟩
/-- (*wimple/ids.Ids).Next -/
noncomputable def k119 : FnK := ⟨kD p2 (oMov (ci 0)) <|
 kD p3 (oMov (ci 0)) <|
 kSeq (kBlock 0 <|
 kD p6 (oMov g0) <|
 kD p7 (oPs (.eqx false .p (.t s6) (.k (.ref .nilptr)))) <|
 kD p5 (oMov g7) <|
 kCond g5 (kD p2 (oMov (ci 0)) <|
 kD p3 (oMov (ci 1)) <|
 kRet) <|
 kD p9 (oMov g0) <|
 kD p10 (oNil g9) <|
 kD p11 (oFld 0 g10) <|
 kD p12 (oLd false 1 g11) <|
 kD p13 (oLenS g12) <|
 kD p14 (o_eql g13 (ci 0)) <|
 kD p8 (oMov g14) <|
 kCond g8 (kD p2 (oMov (ci 0)) <|
 kD p3 (oMov (ci 1801)) <|
 kRet) <|
 kEnd) <|
 kD p15 (oMov g0) <|
 kD p16 (oNil g15) <|
 kD p17 (oFld 0 g16) <|
 kD p18 (oLd false 1 g17) <|
 kD p19 (oIdx 1 g18 (ci 0)) <|
 kD p20 (oLd false 1 g19) <|
 kD p21 (oCvti .u16 g20) <|
 kD p22 (oCvti .i64 g21) <|
 kD p4 (oMov g22) <|
 kD p23 (oMov g0) <|
 kD p24 (oMov g0) <|
 kD p25 (oNil g24) <|
 kD p26 (oFld 0 g25) <|
 kD p27 (oLd false 1 g26) <|
 kD p28 (oSlc 1 g27 (some (ci 1)) none (oPs (.slc 1 (.t s27) (some (.k (vi 1))) none none))) <|
 kD p29 (oNil g23) <|
 kD p30 (oFld 0 g29) <|
 kD0 (oSt 1 g30 g28) <|
 kD p31 (oMov g4) <|
 kD p2 (oMov g31) <|
 kD p3 (oMov (ci 0)) <|
 kRet,
 (r2 g2 g3)⟩
/-- wimple/qmin.Next -/
noncomputable def k120 : FnK := ⟨kD p3 (oBox g0) <|
 kD p6 (oAlloc [(.str []), (vi 0)]) <|
 kD p7 (oMov (ci 0)) <|
 kSeq (kD p15 (oFld 0 g3) <|
 kD p16 (oLd false 1 g15) <|
 kCall p17 (cF 75 (aC g16 aN)) <|
 kD p18 (oNot g17) <|
 kD p19 (oMov g18) <|
 kD p20 (oG g19 false (oFld 3 g3)) <|
 kD p21 (oG g19 false (oLd false 1 g20)) <|
 kCall p22 (cG g19 false (cF 75 (aC g21 aN))) <|
 kD p23 (oG g19 false (oNot g22)) <|
 kD p24 (oPick g19 (kV (.bool true)) g23) <|
 kD p25 (oMov g24) <|
 kD p26 (oG g25 false (oFld 3 g3)) <|
 kD p27 (oG g25 false (oLd false 1 g26)) <|
 kD p28 (oG g25 false (oFld 0 g3)) <|
 kD p29 (oG g25 false (oLd false 1 g28)) <|
 kCall p30 (cG g25 false (cF 108 (aC g27 (aC g29 aN)))) <|
 kD p31 (oG g25 false (oNot g30)) <|
 kD p32 (oPick g25 (kV (.bool true)) g31) <|
 kD p33 (oMov g32) <|
 kD p34 (oG g33 false (oFld 1 g3)) <|
 kD p35 (oG g33 false (oLd false 1 g34)) <|
 kD p36 (oG g33 false (o_lss g35 (ci 1))) <|
 kD p37 (oPick g33 (kV (.bool true)) g36) <|
 kD p38 (oMov g37) <|
 kD p39 (oG g38 false (oFld 1 g3)) <|
 kD p40 (oG g38 false (oLd false 1 g39)) <|
 kD p41 (oG g38 false (o_gtr g40 (ci 65535))) <|
 kD p42 (oPick g38 (kV (.bool true)) g41) <|
 kCond g42 (kD p43 (oBuild [(.str []), (vi 0)] bN) <|
 kD0 (oSt 2 g6 g43) <|
 kD p7 (oMov (ci 1700)) <|
 kRet) <|
 kEnd) <|
 kD p44 (oFld 0 g3) <|
 kD p45 (oLd false 1 g44) <|
 kD p47 (oFld 1 g3) <|
 kD p48 (oLd false 1 g47) <|
 kD p8 (oAlloc [(.str []), (vi 0)]) <|
 kCall p46 (cF 77 (aC g45 aN)) <|
 kChk g48 (oLd false 1 g47) <|
 kD p49 (oBuild [(.str []), (vi 0)] (bC 0 1 g46 (bC 1 1 g48 bN))) <|
 kD0 (oSt 2 g8 g49) <|
 kD p50 (oFld 3 g3) <|
 kD p51 (oLd false 1 g50) <|
 kD p53 (oFld 0 g3) <|
 kD p54 (oLd false 1 g53) <|
 kCall p52 (cF 176 (aC g51 aN)) <|
 kChk g54 (oLd false 1 g53) <|
 kCall p55 (cF 176 (aC g54 aN)) <|
 kD p9 (oMov g52) <|
 kD p10 (oMov g55) <|
 kD p57 (oFld 4 g3) <|
 kD p58 (oLd false 1 g57) <|
 kD p59 (oMov g10) <|
 kD p60 (oMov g9) <|
 kD p61 (o_sub g59 g60) <|
 kD p62 (oPs (.maxI (.t s61) [(.k (vi 1))])) <|
 kD p63 (oMov g1) <|
 kD p64 (oMov g2) <|
 kCall p65 (cF 177 (aC g58 (aC g62 (aC g63 (aC g64 aN))))) <|
 kD p56 (oMov g65) <|
 kD p66 (oExt g56 0) <|
 kD p67 (oExt g56 1) <|
 kD p11 (oMov g66) <|
 kD p12 (oMov g67) <|
 kSeq (kBlock 0 <|
 kD p69 (oMov g12) <|
 kD p70 (o_neq g69 (ci 0)) <|
 kD p68 (oMov g70) <|
 kCond g68 (kD p71 (oBuild [(.str []), (vi 0)] bN) <|
 kD p72 (oMov g12) <|
 kD0 (oSt 2 g6 g71) <|
 kD p7 (oMov g72) <|
 kRet) <|
 kD p74 (oFld 5 g3) <|
 kD p75 (oLd false 1 g74) <|
 kD p76 (oMov g75) <|
 kD p77 (oG g76 false (oMov g9)) <|
 kD p78 (oG g76 false (oMov g10)) <|
 kD p79 (oG g76 false (o_eql g77 g78)) <|
 kD p80 (oPick g76 (kV (.bool true)) g79) <|
 kD p81 (oMov g80) <|
 kD p82 (oG g81 false (oMov g9)) <|
 kD p83 (oG g81 false (oMov g11)) <|
 kD p84 (oG g81 false (o_add g82 g83)) <|
 kD p85 (oG g81 false (oMov g10)) <|
 kD p86 (oG g81 false (o_geq g84 g85)) <|
 kD p87 (oPick g81 (kV (.bool true)) g86) <|
 kD p73 (oMov g87) <|
 kCond g73 (kD p88 (oLd true 2 g8) <|
 kD0 (oSt 2 g6 g88) <|
 kD p7 (oMov (ci 0)) <|
 kRet) <|
 kEnd) <|
 kD p90 (oFld 0 g8) <|
 kD p91 (oLd false 1 g90) <|
 kD p92 (oMov g9) <|
 kD p93 (oMov g11) <|
 kD p94 (o_add g92 g93) <|
 kCall p95 (cF 178 (aC g91 (aC g94 aN))) <|
 kD p89 (oMov g95) <|
 kD p96 (oExt g89 0) <|
 kD p97 (oExt g89 1) <|
 kD p13 (oMov g96) <|
 kD p14 (oMov g97) <|
 kD p98 (oMov g13) <|
 kD p99 (oBuild [(.str []), (vi 0)] (bC 0 1 g98 (bC 1 1 (ci 1) bN))) <|
 kD0 (oSt 2 g6 g99) <|
 kD p7 (oMov (ci 0)) <|
 kRet,
 (rS [.cell s6 true 2, .tmp s7])⟩
/-- wimple/pad.Query -/
noncomputable def k121 : FnK := ⟨kD p3 (oBox g1) <|
 kD p4 (oMov (kV (.str []))) <|
 kD p5 (oMov (ci 0)) <|
 kSeq (kD p9 (oMov g0) <|
 kD p10 (o_lss g9 (ci 0)) <|
 kD p11 (oMov g10) <|
 kD p12 (oG g11 false (oMov g0)) <|
 kD p13 (oG g11 false (o_gtr g12 (ci 65535))) <|
 kD p14 (oPick g11 (kV (.bool true)) g13) <|
 kD p15 (oMov g14) <|
 kD p16 (oG g15 false (oFld 0 g3)) <|
 kD p17 (oG g15 false (oLd false 1 g16)) <|
 kCall p18 (cG g15 false (cF 75 (aC g17 aN))) <|
 kD p19 (oG g15 false (oNot g18)) <|
 kD p20 (oPick g15 (kV (.bool true)) g19) <|
 kD p21 (oMov g20) <|
 kD p22 (oG g21 false (oFld 1 g3)) <|
 kD p23 (oG g21 false (oLd false 1 g22)) <|
 kD p24 (oG g21 false (o_lss g23 (ci 1))) <|
 kD p25 (oPick g21 (kV (.bool true)) g24) <|
 kD p26 (oMov g25) <|
 kD p27 (oG g26 false (oFld 1 g3)) <|
 kD p28 (oG g26 false (oLd false 1 g27)) <|
 kD p29 (oG g26 false (o_gtr g28 (ci 65535))) <|
 kD p30 (oPick g26 (kV (.bool true)) g29) <|
 kCond g30 (kD p4 (oMov (kV (.str []))) <|
 kD p5 (oMov (ci 1000)) <|
 kRet) <|
 kEnd) <|
 kD p31 (oFld 0 g3) <|
 kD p32 (oLd false 1 g31) <|
 kD p34 (oFld 1 g3) <|
 kD p35 (oLd false 1 g34) <|
 kD p6 (oAlloc [(.str []), (vi 0), (vi 0)]) <|
 kCall p33 (cF 77 (aC g32 aN)) <|
 kChk g35 (oLd false 1 g34) <|
 kD p36 (oBuild [(.str []), (vi 0), (vi 0)] (bC 0 1 g33 (bC 1 1 g35 (bC 2 1 (ci 1) bN)))) <|
 kD0 (oSt 3 g6 g36) <|
 kD p38 (oMov g0) <|
 kD p39 (oBuild [(vi 0), (.bool false), (vi 0), (.bool false), (.bool false), (.bool false), (.bool false), (vi 0), (vi 0)] (bC 0 1 g38 bN)) <|
 kD p40 (oLd true 3 g6) <|
 kD p41 (oAs (.bsl false true 0 3 1 [(.str []), (vi 0), (vi 0)] [(0, (.t s40))])) <|
 kD p42 (oBuild [(vi 0), (.bool false), (vi 0), (.bool false), (.bool false), (.bool false), (.bool false), (vi 0), (vi 0), (.ref .nilsl), (.ref .nilsl), (.ref .nilsl), (.ref .nilsl)] (bC 0 9 g39 (bC 9 1 g41 bN))) <|
 kCall p43 (cF 179 (aC g42 (aC (ci 128) aN))) <|
 kD p37 (oMov g43) <|
 kD p44 (oExt g37 0) <|
 kD p45 (oExt g37 1) <|
 kD p7 (oMov g44) <|
 kD p8 (oMov g45) <|
 kD p46 (oMov g7) <|
 kD p4 (oMov g46) <|
 kD p5 (oMov (ci 0)) <|
 kRet,
 (r2 g4 g5)⟩
/-- (*wimple/out.Table).Add -/
noncomputable def k122 : FnK := ⟨kD p3 (oBox g1) <|
 kD p4 (oMov (ci 0)) <|
 kSeq (kBlock 0 <|
 kD p6 (oMov g0) <|
 kD p7 (oPs (.eqx false .p (.t s6) (.k (.ref .nilptr)))) <|
 kD p5 (oMov g7) <|
 kCond g5 (kD p4 (oMov (ci 1)) <|
 kRet) <|
 kD p9 (oFld 1 g3) <|
 kD p10 (oLd false 1 g9) <|
 kD p11 (o_lss g10 (ci 0)) <|
 kD p12 (oMov g11) <|
 kD p13 (oG g12 false (oFld 1 g3)) <|
 kD p14 (oG g12 false (oLd false 1 g13)) <|
 kD p15 (oG g12 false (o_gtr g14 (ci 65535))) <|
 kD p16 (oPick g12 (kV (.bool true)) g15) <|
 kD p17 (oMov g16) <|
 kD p18 (oG g17 false (oFld 2 g3)) <|
 kD p19 (oG g17 false (oLd false 1 g18)) <|
 kD p20 (oG g17 false (o_lss g19 (ci 0))) <|
 kD p21 (oPick g17 (kV (.bool true)) g20) <|
 kD p22 (oMov g21) <|
 kD p23 (oG g22 false (oFld 2 g3)) <|
 kD p24 (oG g22 false (oLd false 1 g23)) <|
 kD p25 (oG g22 false (o_gtr g24 (ci 4294967295))) <|
 kD p26 (oPick g22 (kV (.bool true)) g25) <|
 kD p27 (oMov g26) <|
 kD p28 (oG g27 false (oFld 5 g3)) <|
 kD p29 (oG g27 false (oFld 0 g28)) <|
 kD p30 (oG g27 false (oLd false 1 g29)) <|
 kCall p31 (cG g27 false (cF 75 (aC g30 aN))) <|
 kD p32 (oG g27 false (oNot g31)) <|
 kD p33 (oPick g27 (kV (.bool true)) g32) <|
 kD p34 (oMov g33) <|
 kD p35 (oG g34 false (oFld 5 g3)) <|
 kD p36 (oG g34 false (oFld 1 g35)) <|
 kD p37 (oG g34 false (oLd false 1 g36)) <|
 kD p38 (oG g34 false (o_lss g37 (ci 1))) <|
 kD p39 (oPick g34 (kV (.bool true)) g38) <|
 kD p40 (oMov g39) <|
 kD p41 (oG g40 false (oFld 5 g3)) <|
 kD p42 (oG g40 false (oFld 1 g41)) <|
 kD p43 (oG g40 false (oLd false 1 g42)) <|
 kD p44 (oG g40 false (o_gtr g43 (ci 65535))) <|
 kD p45 (oPick g40 (kV (.bool true)) g44) <|
 kD p8 (oMov g45) <|
 kCond g8 (kD p4 (oMov (ci 1900)) <|
 kRet) <|
 kD p47 (oMov g0) <|
 kD p48 (oNil g47) <|
 kD p49 (oFld 1 g48) <|
 kD p50 (oLd false 1 g49) <|
 kD p51 (oLenS g50) <|
 kD p52 (oMov g0) <|
 kD p53 (oNil g52) <|
 kD p54 (oFld 0 g53) <|
 kD p55 (oLd false 1 g54) <|
 kD p56 (o_geq g51 g55) <|
 kD p46 (oMov g56) <|
 kCond g46 (kD p4 (oMov (ci 1901)) <|
 kRet) <|
 kEnd) <|
 kD p57 (oMov g0) <|
 kD p58 (oMov g0) <|
 kD p59 (oNil g58) <|
 kD p60 (oFld 1 g59) <|
 kD p61 (oLd false 1 g60) <|
 kD p62 (oLd true 8 g3) <|
 kD p63 (oAs (.bsl true true 0 8 1 [(vi 0), (vi 0), (vi 0), (.str []), (.str []), (.str []), (vi 0), (vi 0)] [(0, (.t s62))])) <|
 kD p64 (oEs (.app true true 0 8 (.t s61) (.t s63))) <|
 kD p65 (oNil g57) <|
 kD p66 (oFld 1 g65) <|
 kD0 (oSt 1 g66 g64) <|
 kD p67 (oMov g0) <|
 kD p68 (oNil g67) <|
 kD p69 (oFld 2 g68) <|
 kD p70 (oLd false 1 g69) <|
 kCall p71 (cF 82 (aC g3 aN)) <|
 kChk g70 (oLd false 1 g69) <|
 kD p72 (oRs (.lkp ⟨true, [(.int .i64), (.int .i64), .str, (.int .i64)]⟩ false (vi 0) (.t s70) (.t s71))) <|
 kD p73 (o_add g72 (ci 1)) <|
 kD p74 (oEs (.ment ⟨true, [(.int .i64), (.int .i64), .str, (.int .i64)]⟩ (vi 0) (.t s70) (.t s71))) <|
 kChk g72 (oRs (.lkp ⟨true, [(.int .i64), (.int .i64), .str, (.int .i64)]⟩ false (vi 0) (.t s70) (.t s71))) <|
 kD p75 (oExt g74 1) <|
 kD0 (oEs (.mst (.t s70) (.t s75) (.t s73))) <|
 kD p4 (oMov (ci 0)) <|
 kRet,
 (r1 g4)⟩
/-- (*wimple/job.Job).Depth -/
noncomputable def k123 : FnK := ⟨kD p2 (oMov (ci 0)) <|
 kSeq (kD p3 (oMov g0) <|
 kD p4 (oPs (.eqx false .p (.t s3) (.k (.ref .nilptr)))) <|
 kCond g4 (kD p2 (oMov (ci 0)) <|
 kRet) <|
 kEnd) <|
 kD p5 (oMov g0) <|
 kD p6 (oNil g5) <|
 kD p7 (oFld 1 g6) <|
 kD p8 (oLd false 1 g7) <|
 kD p9 (oLenS g8) <|
 kD p2 (oMov g9) <|
 kRet,
 (r1 g2)⟩
/-- wimple/serve.Wanting -/
noncomputable def k124 : FnK := ⟨kD p4 (oMov (kV (.ref .nilsl))) <|
 kD p5 (oMov (kV (.ref .nilsl))) <|
 kSeq (kD p9 (oMov g0) <|
 kD p10 (oLenS g9) <|
 kD p11 (oMov (ci 0)) <|
 kBlock 0 <|
 kLoop <|
 kD p12 (o_lss g11 g10) <|
 kSeq (kCond g12 (kEnd) <|
 kExit 0) <|
 kSeq (kBlock 1 <|
 kD p13 (oIdx 1 g9 g11) <|
 kD p14 (oLd false 1 g13) <|
 kD p7 (oAlloc [(.str [])]) <|
 kD0 (oSt 1 g7 g14) <|
 kD p15 (oMov g1) <|
 kD p16 (oPs (.mkf 181 [] [(.t s7)])) <|
 kCall p17 (cF 180 (aC g15 (aC g16 aN))) <|
 kD p8 (oMov g17) <|
 kD p18 (oMov g8) <|
 kD p19 (oNot g18) <|
 kD p20 (oMov g19) <|
 kD p21 (oG g20 true (oMov g1)) <|
 kD p22 (oG g20 true (oLenS g21)) <|
 kD p23 (oG g20 true (o_eql g22 (ci 0))) <|
 kD p24 (oG g20 true (oMov g23)) <|
 kD p25 (oG g24 false (oMov g1)) <|
 kD p26 (oG g24 false (oIdx 5 g25 (ci 0))) <|
 kD p27 (oG g24 false (oFld 0 g26)) <|
 kD p28 (oG g24 false (oLd false 1 g27)) <|
 kD p29 (oG g24 false (oLd false 1 g7)) <|
 kCall p30 (cG g24 false (cF 108 (aC g28 (aC g29 aN)))) <|
 kD p31 (oG g24 false (oNot g30)) <|
 kD p32 (oG g20 true (oPick g24 (kV (.bool true)) g31)) <|
 kD p33 (oPick g20 g32 (kV (.bool false))) <|
 kCond g33 (kD p34 (oMov g5) <|
 kD p35 (oLd false 1 g7) <|
 kD p36 (oBsl1 0 1 1 (lC g35 lN)) <|
 kD p37 (oApp 0 1 g34 g36 (oEs (.app false false 0 1 (.t s34) (.t s36)))) <|
 kD p5 (oMov g37) <|
 kEnd) <|
 kEnd) <|
 kD p38 (o_add g11 (ci 1)) <|
 kD p11 (oMov g38) <|
 kEnd) <|
 kD p39 (oMov g5) <|
 kD p4 (oMov g39) <|
 kRet,
 (r1 g4)⟩
/-- (*wimple/cuts.Cuts).Hosts -/
noncomputable def k125 : FnK := ⟨kD p6 (oMov (kV (.ref .nilsl))) <|
 kSeq (kD p8 (oMov g0) <|
 kD p9 (oPs (.eqx false .p (.t s8) (.k (.ref .nilptr)))) <|
 kCond g9 (kD p6 (oMov (kV (.ref .nilsl))) <|
 kRet) <|
 kEnd) <|
 kSeq (kD p10 (oMov g1) <|
 kCall p11 (cF 113 (aC g10 (aC (kV (.str [0])) aN))) <|
 kCond g11 (kD p12 (oMov g0) <|
 kD p13 (oNil g12) <|
 kD p14 (oFld 0 g13) <|
 kD p15 (oFld 0 g14) <|
 kD p16 (oLd false 1 g15) <|
 kCall p17 (cF 38 (aC g16 aN)) <|
 kD p6 (oMov g17) <|
 kRet) <|
 kEnd) <|
 kSeq (kD p18 (oMov g0) <|
 kD p19 (oMov g1) <|
 kD p20 (oMov g2) <|
 kCall p21 (cF 115 (aC g18 (aC g19 (aC g20 aN)))) <|
 kD p7 (oMov g21) <|
 kD p22 (oMov g7) <|
 kD p23 (oPs (.eqx true .p (.t s22) (.k (.ref .nilptr)))) <|
 kCond g23 (kD p24 (oMov g7) <|
 kD p25 (oNil g24) <|
 kD p26 (oFld 0 g25) <|
 kD p27 (oLd false 1 g26) <|
 kCall p28 (cF 38 (aC g27 aN)) <|
 kD p6 (oMov g28) <|
 kRet) <|
 kEnd) <|
 kD p6 (oMov (kV (.ref .nilsl))) <|
 kRet,
 (r1 g6)⟩
/-- (*wimple/job.Job).Tried -/
noncomputable def k126 : FnK := ⟨kD p4 (oMov (kV (.bool false))) <|
 kSeq (kD p7 (oMov g0) <|
 kD p8 (oPs (.eqx false .p (.t s7) (.k (.ref .nilptr)))) <|
 kCond g8 (kD p4 (oMov (kV (.bool false))) <|
 kRet) <|
 kEnd) <|
 kD p9 (oMov g1) <|
 kCall p10 (cF 77 (aC g9 aN)) <|
 kD p5 (oMov g10) <|
 kD p11 (oMov g0) <|
 kD p12 (oNil g11) <|
 kD p13 (oFld 5 g12) <|
 kD p14 (oLd false 1 g13) <|
 kD p15 (oMov g5) <|
 kD p16 (oRs (.lkp ⟨false, [.str]⟩ false (.bool false) (.t s14) (.t s15))) <|
 kD p6 (oMov g16) <|
 kD p17 (oMov g0) <|
 kD p18 (oNil g17) <|
 kD p19 (oFld 5 g18) <|
 kD p20 (oLd false 1 g19) <|
 kD p21 (oMov g5) <|
 kD0 (oEs (.mup ⟨false, [.str]⟩ (.t s20) (.t s21) (.k (.bool true)))) <|
 kD p22 (oMov g6) <|
 kD p4 (oMov g22) <|
 kRet,
 (r1 g4)⟩
/-- (*wimple/job.Job).Push -/
noncomputable def k127 : FnK := ⟨kD p3 (oBox g1) <|
 kD p4 (oMov (kV (.bool false))) <|
 kSeq (kD p5 (oMov g0) <|
 kD p6 (oPs (.eqx false .p (.t s5) (.k (.ref .nilptr)))) <|
 kD p7 (oMov g6) <|
 kD p8 (oG g7 false (oMov g0)) <|
 kD p9 (oG g7 false (oNil g8)) <|
 kD p10 (oG g7 false (oFld 1 g9)) <|
 kD p11 (oG g7 false (oLd false 1 g10)) <|
 kD p12 (oG g7 false (oLenS g11)) <|
 kD p13 (oG g7 false (oMov g0)) <|
 kD p14 (oG g7 false (oNil g13)) <|
 kD p15 (oG g7 false (oFld 2 g14)) <|
 kD p16 (oG g7 false (oLd false 1 g15)) <|
 kD p17 (oG g7 false (o_gtr g12 g16)) <|
 kD p18 (oPick g7 (kV (.bool true)) g17) <|
 kCond g18 (kD p4 (oMov (kV (.bool false))) <|
 kRet) <|
 kEnd) <|
 kD p19 (oMov g0) <|
 kD p20 (oMov g0) <|
 kD p21 (oNil g20) <|
 kD p22 (oFld 1 g21) <|
 kD p23 (oLd false 1 g22) <|
 kD p24 (oLd true 8 g3) <|
 kD p25 (oAs (.bsl false true 0 8 1 [(.str []), (vi 0), (.str []), (.str []), (vi 0), (.bool false), (vi 0), (vi 0)] [(0, (.t s24))])) <|
 kD p26 (oApp 0 8 g23 g25 (oEs (.app false true 0 8 (.t s23) (.t s25)))) <|
 kD p27 (oNil g19) <|
 kD p28 (oFld 1 g27) <|
 kD0 (oSt 1 g28 g26) <|
 kD p4 (oMov (kV (.bool true))) <|
 kRet,
 (r1 g4)⟩
/-- (*wimple/iter.Resolver).ends -/
noncomputable def k128 : FnK := ⟨kD p6 (oMov (kV (.bool false))) <|
 kSeq (kD p7 (oMov g1) <|
 kCall p8 (cF 123 (aC g7 aN)) <|
 kD p9 (o_eql g8 (ci 1)) <|
 kCond g9 (kD p10 (oMov g0) <|
 kD p11 (oMov g1) <|
 kD p12 (oMov g2) <|
 kCall p13 (cF 118 (aC g10 (aC g11 (aC g12 aN)))) <|
 kD p6 (oMov g13) <|
 kRet) <|
 kEnd) <|
 kD p14 (oMov g1) <|
 kCall p15 (cF 156 (aC g14 aN)) <|
 kD p6 (oMov (kV (.bool true))) <|
 kRet,
 (r1 g6)⟩
/-- wimple/name.Places -/
noncomputable def k129 : FnK := ⟨kD p2 (oMov (kV (.ref .nilsl))) <|
 kD p3 (oMov (kV (.bool false))) <|
 kSeq (kD p7 (oMov g0) <|
 kD p8 (oLenT g7) <|
 kD p9 (o_gtr g8 (ci 255)) <|
 kCond g9 (kD p2 (oMov (kV (.ref .nilsl))) <|
 kD p3 (oMov (kV (.bool false))) <|
 kRet) <|
 kEnd) <|
 kD p4 (oMov (kV (.ref .nilsl))) <|
 kD p5 (oMov (ci 0)) <|
 kSeq (kEnd) <|
 kSeq (kBlock 0 <|
 kLoop <|
 kSeq (kD p10 (oMov g5) <|
 kD p11 (oMov g0) <|
 kD p12 (oLenT g11) <|
 kD p13 (o_lss g10 g12) <|
 kCond g13 (kEnd) <|
 kExit 0) <|
 kBlock 1 <|
 kD p14 (oMov g4) <|
 kD p15 (oMov g5) <|
 kD p16 (oBsl1 0 1 1 (lC g15 lN)) <|
 kD p17 (oApp 0 1 g14 g16 (oEs (.app false false 0 1 (.t s14) (.t s16)))) <|
 kD p4 (oMov g17) <|
 kD p18 (oMov g0) <|
 kD p19 (oMov g5) <|
 kD p20 (oIdxs g18 g19) <|
 kD p21 (oCvti .i64 g20) <|
 kD p6 (oMov g21) <|
 kBlock 2 <|
 kD p27 (oMov g6) <|
 kD p28 (o_eql g27 (ci 0)) <|
 kD p26 (oMov g28) <|
 kCond g26 (kExit 0) <|
 kD p30 (oMov g6) <|
 kD p31 (o_gtr g30 (ci 63)) <|
 kD p29 (oMov g31) <|
 kCond g29 (kD p2 (oMov (kV (.ref .nilsl))) <|
 kD p3 (oMov (kV (.bool false))) <|
 kRet) <|
 kD p22 (oMov g5) <|
 kD p23 (oMov g6) <|
 kD p24 (o_add (ci 1) g23) <|
 kD p25 (o_add g22 g24) <|
 kD p5 (oMov g25) <|
 kEnd) <|
 kD p32 (oMov g4) <|
 kD p33 (oMov g0) <|
 kD p34 (oLenT g33) <|
 kD p35 (o_gtr g34 (ci 0)) <|
 kD p36 (oMov g35) <|
 kD p37 (oG g36 true (oMov g5)) <|
 kD p38 (oG g36 true (oMov g0)) <|
 kD p39 (oG g36 true (oLenT g38)) <|
 kD p40 (oG g36 true (o_sub g39 (ci 1))) <|
 kD p41 (oG g36 true (o_eql g37 g40)) <|
 kD p42 (oPick g36 g41 (kV (.bool false))) <|
 kD p2 (oMov g32) <|
 kD p3 (oMov g42) <|
 kRet,
 (r2 g2 g3)⟩
/-- wimple/name.Labels -/
noncomputable def k130 : FnK := ⟨kD p2 (oMov (kV (.ref .nilsl))) <|
 kD p3 (oMov (kV (.bool false))) <|
 kD p9 (oMov g0) <|
 kCall p10 (cF 129 (aC g9 aN)) <|
 kD p8 (oMov g10) <|
 kD p11 (oExt g8 0) <|
 kD p12 (oExt g8 1) <|
 kD p4 (oMov g11) <|
 kD p5 (oMov g12) <|
 kSeq (kD p13 (oMov g5) <|
 kD p14 (oNot g13) <|
 kCond g14 (kD p2 (oMov (kV (.ref .nilsl))) <|
 kD p3 (oMov (kV (.bool false))) <|
 kRet) <|
 kEnd) <|
 kD p6 (oMov (kV (.ref .nilsl))) <|
 kSeq (kD p7 (oMov (ci 1)) <|
 kBlock 0 <|
 kLoop <|
 kSeq (kD p15 (oMov g7) <|
 kD p16 (oMov g4) <|
 kD p17 (oLenS g16) <|
 kD p18 (o_lss g15 g17) <|
 kCond g18 (kEnd) <|
 kExit 0) <|
 kSeq (kBlock 1 <|
 kD p21 (oMov g6) <|
 kD p22 (oMov g0) <|
 kD p23 (oMov g4) <|
 kD p24 (oMov g7) <|
 kD p25 (o_sub g24 (ci 1)) <|
 kD p26 (oIdx 1 g23 g25) <|
 kD p27 (oLd false 1 g26) <|
 kD p28 (o_add g27 (ci 1)) <|
 kD p29 (oMov g4) <|
 kD p30 (oMov g7) <|
 kD p31 (oIdx 1 g29 g30) <|
 kD p32 (oLd false 1 g31) <|
 kD p33 (oSlc 0 g22 (some g28) (some g32) (oPs (.slc 0 (.t s22) (some (.t s28)) (some (.t s32)) none))) <|
 kD p34 (oBsl1 0 1 1 (lC g33 lN)) <|
 kD p35 (oApp 0 1 g21 g34 (oEs (.app false false 0 1 (.t s21) (.t s34)))) <|
 kD p6 (oMov g35) <|
 kEnd) <|
 kD p19 (oMov g7) <|
 kD p20 (o_add g19 (ci 1)) <|
 kD p7 (oMov g20) <|
 kEnd) <|
 kD p36 (oMov g6) <|
 kD p2 (oMov g36) <|
 kD p3 (oMov (kV (.bool true))) <|
 kRet,
 (r2 g2 g3)⟩
/-- (*strings.Builder).WriteByte -/
noncomputable def k131 : FnK := ⟨kD p4 (oMov (kV (.ref .niliface))) <|
 kD p5 (oMov g0) <|
 kCall p6 (cF 182 (aC g5 aN)) <|
 kD p7 (oMov g0) <|
 kD p8 (oMov g0) <|
 kD p9 (oNil g8) <|
 kD p10 (oFld 1 g9) <|
 kD p11 (oLd false 1 g10) <|
 kD p12 (oMov g1) <|
 kD p13 (oBsl1 1 1 1 (lC g12 lN)) <|
 kD p14 (oApp 1 1 g11 g13 (oEs (.app false false 1 1 (.t s11) (.t s13)))) <|
 kD p15 (oNil g7) <|
 kD p16 (oFld 1 g15) <|
 kD0 (oSt 1 g16 g14) <|
 kD p4 (oMov (kV (.ref .niliface))) <|
 kRet,
 (r1 g4)⟩
/-- (*strings.Builder).WriteString -/
noncomputable def k132 : FnK := ⟨kD p4 (oMov (ci 0)) <|
 kD p5 (oMov (kV (.ref .niliface))) <|
 kD p6 (oMov g0) <|
 kCall p7 (cF 182 (aC g6 aN)) <|
 kD p8 (oMov g0) <|
 kD p9 (oMov g0) <|
 kD p10 (oNil g9) <|
 kD p11 (oFld 1 g10) <|
 kD p12 (oLd false 1 g11) <|
 kD p13 (oMov g1) <|
 kD p14 (oApp 1 1 g12 g13 (oEs (.app false false 1 1 (.t s12) (.t s13)))) <|
 kD p15 (oNil g8) <|
 kD p16 (oFld 1 g15) <|
 kD0 (oSt 1 g16 g14) <|
 kD p17 (oMov g1) <|
 kD p18 (oLenT g17) <|
 kD p4 (oMov g18) <|
 kD p5 (oMov (kV (.ref .niliface))) <|
 kRet,
 (r2 g4 g5)⟩
/-- wimple/rel.folded -/
noncomputable def k133 : FnK := ⟨kD p2 (oMov (kV (.str []))) <|
 kD p5 (oMov g0) <|
 kD p6 (oAs (.cvtb (.t s5))) <|
 kD p3 (oMov g6) <|
 kSeq (kD p7 (oMov g3) <|
 kD p8 (oLenS g7) <|
 kD p9 (oMov (ci 0)) <|
 kBlock 0 <|
 kLoop <|
 kD p10 (o_lss g9 g8) <|
 kSeq (kCond g10 (kEnd) <|
 kExit 0) <|
 kSeq (kBlock 1 <|
 kD p11 (oMov g9) <|
 kD p4 (oMov g11) <|
 kD p12 (oMov g3) <|
 kD p13 (oMov g4) <|
 kD p14 (oMov g3) <|
 kD p15 (oMov g4) <|
 kD p16 (oIdx 1 g14 g15) <|
 kD p17 (oLd false 1 g16) <|
 kCall p18 (cF 183 (aC g17 aN)) <|
 kD p19 (oIdx 1 g12 g13) <|
 kD0 (oSt 1 g19 g18) <|
 kEnd) <|
 kD p20 (o_add g9 (ci 1)) <|
 kD p9 (oMov g20) <|
 kEnd) <|
 kD p21 (oMov g3) <|
 kD p22 (oCvts g21 (oRs (.cvts (.t s21)))) <|
 kD p2 (oMov g22) <|
 kRet,
 (r1 g2)⟩
/-- (*strings.Builder).String -/
noncomputable def k134 : FnK := ⟨kD p2 (oMov (kV (.str []))) <|
 kD p3 (oMov g0) <|
 kD p4 (oNil g3) <|
 kD p5 (oFld 1 g4) <|
 kD p6 (oLd false 1 g5) <|
 kD p7 (oPs (.sdat (.t s6))) <|
 kD p8 (oMov g0) <|
 kD p9 (oNil g8) <|
 kD p10 (oFld 1 g9) <|
 kD p11 (oLd false 1 g10) <|
 kD p12 (oLenS g11) <|
 kD p13 (oEs (.ustr (.t s7) (.t s12))) <|
 kD p2 (oMov g13) <|
 kRet,
 (r1 g2)⟩
/-- slices.Index[[]string,string] -/
noncomputable def k135 : FnK := ⟨kD p4 (oMov (ci 0)) <|
 kSeq (kD p6 (oMov g0) <|
 kD p7 (oLenS g6) <|
 kD p8 (oMov (ci 0)) <|
 kBlock 0 <|
 kLoop <|
 kD p9 (o_lss g8 g7) <|
 kSeq (kCond g9 (kEnd) <|
 kExit 0) <|
 kSeq (kBlock 1 <|
 kD p10 (oMov g8) <|
 kD p5 (oMov g10) <|
 kD p11 (oMov g1) <|
 kD p12 (oMov g0) <|
 kD p13 (oMov g5) <|
 kD p14 (oIdx 1 g12 g13) <|
 kD p15 (oLd false 1 g14) <|
 kD p16 (o_eql g11 g15) <|
 kCond g16 (kD p17 (oMov g5) <|
 kD p4 (oMov g17) <|
 kRet) <|
 kEnd) <|
 kD p18 (o_add g8 (ci 1)) <|
 kD p8 (oMov g18) <|
 kEnd) <|
 kD p4 (oMov (kV (.int .i64 (.c (.negSucc 0))))) <|
 kRet,
 (r1 g4)⟩
/-- wimple/head.Get -/
noncomputable def k136 : FnK := ⟨kD p2 (oAlloc [(vi 0), (.bool false), (vi 0), (.bool false), (.bool false), (.bool false), (.bool false), (vi 0), (vi 0)]) <|
 kD p3 (oAlloc [(vi 0), (vi 0), (vi 0), (vi 0)]) <|
 kD p4 (oMov (ci 0)) <|
 kD p5 (oAlloc [(vi 0), (vi 0), (vi 0), (vi 0)]) <|
 kSeq (kD p13 (oMov g0) <|
 kD p14 (oLenT g13) <|
 kD p15 (o_lss g14 (ci 12)) <|
 kCond g15 (kD p16 (oBuild [(vi 0), (.bool false), (vi 0), (.bool false), (.bool false), (.bool false), (.bool false), (vi 0), (vi 0)] bN) <|
 kD p17 (oLd true 4 g5) <|
 kD0 (oSt 9 g2 g16) <|
 kChk g17 (oLd true 4 g5) <|
 kD0 (oSt 4 g3 g17) <|
 kD p4 (oMov (ci 600)) <|
 kRet) <|
 kEnd) <|
 kD p19 (oMov g0) <|
 kCall p20 (cF 184 (aC g19 (aC (ci 0) aN))) <|
 kD p18 (oMov g20) <|
 kD p21 (oExt g18 0) <|
 kD p22 (oExt g18 1) <|
 kD p23 (oExt g18 2) <|
 kD p6 (oMov g21) <|
 kD p7 (oMov g22) <|
 kD p8 (oMov g23) <|
 kD p25 (oMov g0) <|
 kD p26 (oMov g7) <|
 kCall p27 (cF 184 (aC g25 (aC g26 aN))) <|
 kD p24 (oMov g27) <|
 kD p28 (oExt g24 0) <|
 kD p29 (oExt g24 1) <|
 kD p30 (oExt g24 2) <|
 kD p9 (oAlloc [(vi 0)]) <|
 kD0 (oSt 1 g9 g28) <|
 kD p7 (oMov g29) <|
 kD p10 (oMov g30) <|
 kSeq (kD p31 (oMov (ci 0)) <|
 kBlock 0 <|
 kLoop <|
 kD p32 (o_lss g31 (ci 4)) <|
 kSeq (kCond g32 (kEnd) <|
 kExit 0) <|
 kSeq (kBlock 1 <|
 kD p33 (oMov g31) <|
 kD p11 (oMov g33) <|
 kD p35 (oMov g11) <|
 kD p36 (oMov g0) <|
 kD p37 (oMov g7) <|
 kCall p38 (cF 184 (aC g36 (aC g37 aN))) <|
 kD p34 (oMov g38) <|
 kD p39 (oExt g34 0) <|
 kD p40 (oExt g34 1) <|
 kD p41 (oExt g34 2) <|
 kD p42 (oIdxa 4 1 g5 g35) <|
 kD0 (oSt 1 g42 g39) <|
 kD p7 (oMov g40) <|
 kEnd) <|
 kD p43 (o_add g31 (ci 1)) <|
 kD p31 (oMov g43) <|
 kEnd) <|
 kD p44 (oPs (.mkf 185 [] [(.t s9)])) <|
 kD p12 (oMov g44) <|
 kD p45 (oMov g6) <|
 kD p46 (oMov g12) <|
 kD p48 (oLd false 1 g9) <|
 kD p49 (o_shr g48 (kV (.int .u64 (.c (.ofNat 11))))) <|
 kD p50 (o_and g49 (ci 15)) <|
 kD p51 (oMov g12) <|
 kD p53 (oMov g12) <|
 kD p55 (oMov g12) <|
 kD p57 (oMov g12) <|
 kD p59 (oLd false 1 g9) <|
 kD p60 (o_shr g59 (kV (.int .u64 (.c (.ofNat 4))))) <|
 kD p61 (o_and g60 (ci 7)) <|
 kD p62 (oLd false 1 g9) <|
 kD p63 (o_and g62 (ci 15)) <|
 kD p65 (oLd true 4 g5) <|
 kCall p47 (cV g46 (aC (ci 15) aN)) <|
 kChk g65 (oLd true 4 g5) <|
 kChk g62 (oLd false 1 g9) <|
 kChk g59 (oLd false 1 g9) <|
 kChk g48 (oLd false 1 g9) <|
 kCall p52 (cV g51 (aC (ci 10) aN)) <|
 kChk g65 (oLd true 4 g5) <|
 kChk g62 (oLd false 1 g9) <|
 kChk g59 (oLd false 1 g9) <|
 kChk g48 (oLd false 1 g9) <|
 kCall p54 (cV g53 (aC (ci 9) aN)) <|
 kChk g65 (oLd true 4 g5) <|
 kChk g62 (oLd false 1 g9) <|
 kChk g59 (oLd false 1 g9) <|
 kChk g48 (oLd false 1 g9) <|
 kCall p56 (cV g55 (aC (ci 8) aN)) <|
 kChk g65 (oLd true 4 g5) <|
 kChk g62 (oLd false 1 g9) <|
 kChk g59 (oLd false 1 g9) <|
 kChk g48 (oLd false 1 g9) <|
 kCall p58 (cV g57 (aC (ci 7) aN)) <|
 kChk g65 (oLd true 4 g5) <|
 kChk g62 (oLd false 1 g9) <|
 kChk g59 (oLd false 1 g9) <|
 kChk g48 (oLd false 1 g9) <|
 kD p64 (oBuild [(vi 0), (.bool false), (vi 0), (.bool false), (.bool false), (.bool false), (.bool false), (vi 0), (vi 0)] (bC 0 1 g45 (bC 1 1 g47 (bC 2 1 g50 (bC 3 1 g52 (bC 4 1 g54 (bC 5 1 g56 (bC 6 1 g58 (bC 7 1 g61 (bC 8 1 g63 bN)))))))))) <|
 kD0 (oSt 9 g2 g64) <|
 kChk g65 (oLd true 4 g5) <|
 kD0 (oSt 4 g3 g65) <|
 kD p4 (oMov (ci 0)) <|
 kRet,
 (rS [.cell s2 true 9, .cell s3 true 4, .tmp s4])⟩
/-- wimple/wire.list[wimple/api.Question] -/
noncomputable def k137 : FnK := ⟨kD p6 (oMov (kV (.ref .nilsl))) <|
 kD p8 (oMov g0) <|
 kD p9 (oMov g0) <|
 kD p10 (oNil g9) <|
 kD p11 (oFld 2 g10) <|
 kD p12 (oLd false 1 g11) <|
 kD p13 (oMov g12) <|
 kD p14 (oG g13 false (oMov g1)) <|
 kD p15 (oG g13 false (o_gtr g14 (ci 64))) <|
 kD p16 (oPick g13 (kV (.bool true)) g15) <|
 kD p17 (oNil g8) <|
 kD p18 (oFld 2 g17) <|
 kD0 (oSt 1 g18 g16) <|
 kD p7 (oMov (kV (.ref .nilsl))) <|
 kSeq (kBlock 0 <|
 kLoop <|
 kSeq (kD p19 (oMov g1) <|
 kD p20 (o_gtr g19 (ci 0)) <|
 kD p21 (oMov g20) <|
 kD p22 (oG g21 true (oMov g0)) <|
 kD p23 (oG g21 true (oNil g22)) <|
 kD p24 (oG g21 true (oFld 2 g23)) <|
 kD p25 (oG g21 true (oLd false 1 g24)) <|
 kD p26 (oG g21 true (oNot g25)) <|
 kD p27 (oPick g21 g26 (kV (.bool false))) <|
 kCond g27 (kEnd) <|
 kExit 0) <|
 kSeq (kBlock 1 <|
 kD p30 (oMov g7) <|
 kD p31 (oMov g2) <|
 kD p32 (oMov g0) <|
 kCall p33 (cV g31 (aC g32 aN)) <|
 kD p34 (oAs (.bsl false true 0 3 1 [(.str []), (vi 0), (vi 0)] [(0, (.t s33))])) <|
 kD p35 (oApp 0 3 g30 g34 (oEs (.app false true 0 3 (.t s30) (.t s34)))) <|
 kD p7 (oMov g35) <|
 kEnd) <|
 kD p28 (oMov g1) <|
 kD p29 (o_sub g28 (ci 1)) <|
 kD p1 (oMov g29) <|
 kEnd) <|
 kD p36 (oMov g7) <|
 kD p6 (oMov g36) <|
 kRet,
 (r1 g6)⟩
/-- (*wimple/wire.reader).question -/
noncomputable def k138 : FnK := ⟨kD p2 (oAlloc [(.str []), (vi 0), (vi 0)]) <|
 kD p8 (oMov g0) <|
 kD p9 (oNil g8) <|
 kD p10 (oFld 0 g9) <|
 kD p11 (oLd false 1 g10) <|
 kD p12 (oMov g0) <|
 kD p13 (oNil g12) <|
 kD p14 (oFld 1 g13) <|
 kD p15 (oLd false 1 g14) <|
 kCall p16 (cF 186 (aC g11 (aC g15 aN))) <|
 kD p7 (oMov g16) <|
 kD p17 (oExt g7 0) <|
 kD p18 (oExt g7 1) <|
 kD p19 (oExt g7 2) <|
 kD p3 (oMov g17) <|
 kD p4 (oMov g18) <|
 kD p5 (oMov g19) <|
 kSeq (kD p20 (oMov g0) <|
 kD p21 (oMov g0) <|
 kD p22 (oNil g21) <|
 kD p23 (oFld 2 g22) <|
 kD p24 (oLd false 1 g23) <|
 kD p25 (oMov g24) <|
 kD p26 (oG g25 false (oMov g5)) <|
 kD p27 (oG g25 false (o_neq g26 (ci 0))) <|
 kD p28 (oPick g25 (kV (.bool true)) g27) <|
 kD p29 (oNil g20) <|
 kD p30 (oFld 2 g29) <|
 kD0 (oSt 1 g30 g28) <|
 kD p31 (oMov g0) <|
 kD p32 (oNil g31) <|
 kD p33 (oFld 2 g32) <|
 kD p34 (oLd false 1 g33) <|
 kCond g34 (kD p35 (oBuild [(.str []), (vi 0), (vi 0)] bN) <|
 kD0 (oSt 3 g2 g35) <|
 kRet) <|
 kEnd) <|
 kD p36 (oMov g0) <|
 kD p37 (oMov g4) <|
 kD p38 (oNil g36) <|
 kD p39 (oFld 1 g38) <|
 kD0 (oSt 1 g39 g37) <|
 kD p40 (oMov g3) <|
 kD p41 (oMov g0) <|
 kCall p42 (cF 187 (aC g41 (aC (kF 184) aN))) <|
 kD p43 (oBuild [(.str []), (vi 0), (vi 0)] (bC 0 1 g40 (bC 1 1 g42 bN))) <|
 kD p6 (oAlloc [(.str []), (vi 0), (vi 0)]) <|
 kD0 (oSt 3 g6 g43) <|
 kD p44 (oMov g0) <|
 kCall p45 (cF 187 (aC g44 (aC (kF 184) aN))) <|
 kD p46 (oFld 2 g6) <|
 kD0 (oSt 1 g46 g45) <|
 kD p47 (oMov g0) <|
 kD p48 (oMov g0) <|
 kD p49 (oNil g48) <|
 kD p50 (oFld 2 g49) <|
 kD p51 (oLd false 1 g50) <|
 kD p52 (oMov g51) <|
 kD p53 (oG g52 false (oFld 1 g6)) <|
 kD p54 (oG g52 false (oLd false 1 g53)) <|
 kD p55 (oG g52 false (o_eql g54 (ci 0))) <|
 kD p56 (oPick g52 (kV (.bool true)) g55) <|
 kD p57 (oNil g47) <|
 kD p58 (oFld 2 g57) <|
 kD0 (oSt 1 g58 g56) <|
 kD p59 (oLd true 3 g6) <|
 kD0 (oSt 3 g2 g59) <|
 kRet,
 (rS [.cell s2 true 3])⟩
/-- wimple/wire.list[wimple/api.Rr] -/
noncomputable def k139 : FnK := ⟨kD p6 (oMov (kV (.ref .nilsl))) <|
 kD p8 (oMov g0) <|
 kD p9 (oMov g0) <|
 kD p10 (oNil g9) <|
 kD p11 (oFld 2 g10) <|
 kD p12 (oLd false 1 g11) <|
 kD p13 (oMov g12) <|
 kD p14 (oG g13 false (oMov g1)) <|
 kD p15 (oG g13 false (o_gtr g14 (ci 64))) <|
 kD p16 (oPick g13 (kV (.bool true)) g15) <|
 kD p17 (oNil g8) <|
 kD p18 (oFld 2 g17) <|
 kD0 (oSt 1 g18 g16) <|
 kD p7 (oMov (kV (.ref .nilsl))) <|
 kSeq (kBlock 0 <|
 kLoop <|
 kSeq (kD p19 (oMov g1) <|
 kD p20 (o_gtr g19 (ci 0)) <|
 kD p21 (oMov g20) <|
 kD p22 (oG g21 true (oMov g0)) <|
 kD p23 (oG g21 true (oNil g22)) <|
 kD p24 (oG g21 true (oFld 2 g23)) <|
 kD p25 (oG g21 true (oLd false 1 g24)) <|
 kD p26 (oG g21 true (oNot g25)) <|
 kD p27 (oPick g21 g26 (kV (.bool false))) <|
 kCond g27 (kEnd) <|
 kExit 0) <|
 kSeq (kBlock 1 <|
 kD p30 (oMov g7) <|
 kD p31 (oMov g2) <|
 kD p32 (oMov g0) <|
 kCall p33 (cV g31 (aC g32 aN)) <|
 kD p34 (oAs (.bsl false true 0 5 1 [(.str []), (vi 0), (vi 0), (vi 0), (.str [])] [(0, (.t s33))])) <|
 kD p35 (oApp 0 5 g30 g34 (oEs (.app false true 0 5 (.t s30) (.t s34)))) <|
 kD p7 (oMov g35) <|
 kEnd) <|
 kD p28 (oMov g1) <|
 kD p29 (o_sub g28 (ci 1)) <|
 kD p1 (oMov g29) <|
 kEnd) <|
 kD p36 (oMov g7) <|
 kD p6 (oMov g36) <|
 kRet,
 (r1 g6)⟩
/-- (*wimple/wire.reader).record -/
noncomputable def k140 : FnK := ⟨kD p2 (oAlloc [(.str []), (vi 0), (vi 0), (vi 0), (.str [])]) <|
 kD p8 (oMov g0) <|
 kCall p9 (cF 138 (aC g8 aN)) <|
 kD p3 (oAlloc [(.str []), (vi 0), (vi 0)]) <|
 kD0 (oSt 3 g3 g9) <|
 kD p10 (oFld 0 g3) <|
 kD p11 (oLd false 1 g10) <|
 kD p12 (oFld 1 g3) <|
 kD p13 (oLd false 1 g12) <|
 kD p14 (oFld 2 g3) <|
 kD p15 (oLd false 1 g14) <|
 kD p16 (oMov g0) <|
 kD p4 (oAlloc [(.str []), (vi 0), (vi 0), (vi 0), (.str [])]) <|
 kCall p17 (cF 187 (aC g16 (aC (kF 188) aN))) <|
 kChk g15 (oLd false 1 g14) <|
 kChk g13 (oLd false 1 g12) <|
 kChk g11 (oLd false 1 g10) <|
 kD p18 (oBuild [(.str []), (vi 0), (vi 0), (vi 0), (.str [])] (bC 0 1 g11 (bC 1 1 g13 (bC 2 1 g15 (bC 3 1 g17 bN))))) <|
 kD0 (oSt 5 g4 g18) <|
 kD p19 (oMov g0) <|
 kCall p20 (cF 187 (aC g19 (aC (kF 184) aN))) <|
 kD p5 (oMov g20) <|
 kD p22 (oMov g0) <|
 kD p23 (oNil g22) <|
 kD p24 (oFld 0 g23) <|
 kD p25 (oLd false 1 g24) <|
 kD p26 (oMov g0) <|
 kD p27 (oNil g26) <|
 kD p28 (oFld 1 g27) <|
 kD p29 (oLd false 1 g28) <|
 kD p30 (oMov g5) <|
 kD p31 (oFld 1 g4) <|
 kD p32 (oLd false 1 g31) <|
 kCall p33 (cF 189 (aC g25 (aC g29 (aC g30 (aC g32 aN))))) <|
 kD p21 (oMov g33) <|
 kD p34 (oExt g21 0) <|
 kD p35 (oExt g21 1) <|
 kD p6 (oMov g34) <|
 kD p7 (oMov g35) <|
 kSeq (kD p36 (oMov g0) <|
 kD p37 (oMov g0) <|
 kD p38 (oNil g37) <|
 kD p39 (oFld 2 g38) <|
 kD p40 (oLd false 1 g39) <|
 kD p41 (oMov g40) <|
 kD p42 (oG g41 false (oMov g7)) <|
 kD p43 (oG g41 false (o_neq g42 (ci 0))) <|
 kD p44 (oPick g41 (kV (.bool true)) g43) <|
 kD p45 (oNil g36) <|
 kD p46 (oFld 2 g45) <|
 kD0 (oSt 1 g46 g44) <|
 kD p47 (oMov g0) <|
 kD p48 (oNil g47) <|
 kD p49 (oFld 2 g48) <|
 kD p50 (oLd false 1 g49) <|
 kCond g50 (kD p51 (oBuild [(.str []), (vi 0), (vi 0), (vi 0), (.str [])] bN) <|
 kD0 (oSt 5 g2 g51) <|
 kRet) <|
 kEnd) <|
 kD p52 (oMov g0) <|
 kD p53 (oNil g52) <|
 kD p54 (oFld 1 g53) <|
 kD p55 (oLd false 1 g54) <|
 kD p56 (oMov g5) <|
 kD p57 (o_add g55 g56) <|
 kD p58 (oNil g52) <|
 kD p59 (oFld 1 g58) <|
 kD0 (oSt 1 g59 g57) <|
 kD p60 (oMov g6) <|
 kD p61 (oFld 4 g4) <|
 kD0 (oSt 1 g61 g60) <|
 kD p62 (oLd true 5 g4) <|
 kD0 (oSt 5 g2 g62) <|
 kRet,
 (rS [.cell s2 true 5])⟩
/-- (*wimple/class.asking).of -/
noncomputable def k141 : FnK := ⟨kD p2 (oMov (ci 0)) <|
 kSeq (kBlock 0 <|
 kD p8 (oMov g0) <|
 kD p9 (oNil g8) <|
 kD p10 (oFld 0 g9) <|
 kD p11 (oLd false 1 g10) <|
 kD p12 (oNil g11) <|
 kD p13 (oFld 0 g12) <|
 kD p14 (oFld 4 g13) <|
 kD p15 (oLd false 1 g14) <|
 kD p7 (oMov g15) <|
 kCond g7 (kD p2 (oMov (ci 0)) <|
 kRet) <|
 kD p17 (oMov g0) <|
 kD p18 (oNil g17) <|
 kD p19 (oFld 0 g18) <|
 kD p20 (oLd false 1 g19) <|
 kD p21 (oNil g20) <|
 kD p22 (oFld 0 g21) <|
 kD p23 (oFld 8 g22) <|
 kD p24 (oLd false 1 g23) <|
 kD p25 (o_neq g24 (ci 0)) <|
 kD p16 (oMov g25) <|
 kCond g16 (kD p26 (oMov g0) <|
 kCall p27 (cF 190 (aC g26 aN)) <|
 kD p2 (oMov g27) <|
 kRet) <|
 kEnd) <|
 kSeq (kD p29 (oMov g0) <|
 kCall p30 (cF 191 (aC g29 aN)) <|
 kD p28 (oMov g30) <|
 kD p31 (oExt g28 0) <|
 kD p32 (oExt g28 1) <|
 kD p3 (oMov g31) <|
 kD p4 (oMov g32) <|
 kD p33 (oMov g4) <|
 kCond g33 (kD p34 (oMov g3) <|
 kD p2 (oMov g34) <|
 kRet) <|
 kEnd) <|
 kD p36 (oMov g0) <|
 kCall p37 (cF 142 (aC g36 aN)) <|
 kD p35 (oMov g37) <|
 kD p38 (oExt g35 0) <|
 kD p39 (oExt g35 1) <|
 kD p5 (oMov g38) <|
 kD p6 (oMov g39) <|
 kSeq (kBlock 1 <|
 kD p41 (oMov g6) <|
 kD p40 (oMov g41) <|
 kCond g40 (kD p2 (oMov (ci 1)) <|
 kRet) <|
 kD p43 (oMov g0) <|
 kCall p44 (cF 192 (aC g43 aN)) <|
 kD p45 (oNot g44) <|
 kD p42 (oMov g45) <|
 kCond g42 (kD p2 (oMov (ci 3)) <|
 kRet) <|
 kD p47 (oMov g0) <|
 kCall p48 (cF 193 (aC g47 aN)) <|
 kD p46 (oMov g48) <|
 kCond g46 (kD p2 (oMov (ci 7)) <|
 kRet) <|
 kEnd) <|
 kD p2 (oMov (ci 0)) <|
 kRet,
 (r1 g2)⟩
/-- (*wimple/class.asking).cut -/
noncomputable def k142 : FnK := ⟨kD p2 (oMov (kV (.str []))) <|
 kD p3 (oMov (kV (.bool false))) <|
 kSeq (kD p8 (oMov g0) <|
 kD p9 (oNil g8) <|
 kD p10 (oFld 0 g9) <|
 kD p11 (oLd false 1 g10) <|
 kD p12 (oNil g11) <|
 kD p13 (oFld 0 g12) <|
 kD p14 (oFld 3 g13) <|
 kD p15 (oLd false 1 g14) <|
 kD p16 (oMov g15) <|
 kD p17 (oG g16 false (oMov g0)) <|
 kD p18 (oG g16 false (oNil g17)) <|
 kD p19 (oG g16 false (oFld 0 g18)) <|
 kD p20 (oG g16 false (oLd false 1 g19)) <|
 kD p21 (oG g16 false (oNil g20)) <|
 kD p22 (oG g16 false (oFld 10 g21)) <|
 kD p23 (oG g16 false (oLd false 1 g22)) <|
 kD p24 (oG g16 false (oLenS g23)) <|
 kD p25 (oG g16 false (o_gtr g24 (ci 0))) <|
 kD p26 (oPick g16 (kV (.bool true)) g25) <|
 kCond g26 (kD p2 (oMov (kV (.str []))) <|
 kD p3 (oMov (kV (.bool false))) <|
 kRet) <|
 kEnd) <|
 kD p4 (oMov (kV (.str []))) <|
 kSeq (kD p27 (oMov g0) <|
 kD p28 (oNil g27) <|
 kD p29 (oFld 0 g28) <|
 kD p30 (oLd false 1 g29) <|
 kD p31 (oNil g30) <|
 kD p32 (oFld 11 g31) <|
 kD p33 (oLd false 1 g32) <|
 kD p34 (oLenS g33) <|
 kD p35 (oMov (ci 0)) <|
 kBlock 0 <|
 kLoop <|
 kD p36 (o_lss g35 g34) <|
 kSeq (kCond g36 (kEnd) <|
 kExit 0) <|
 kSeq (kBlock 1 <|
 kD p37 (oIdx 5 g33 g35) <|
 kD p38 (oLd true 5 g37) <|
 kD p6 (oAlloc [(.str []), (vi 0), (vi 0), (vi 0), (.str [])]) <|
 kD0 (oSt 5 g6 g38) <|
 kSeq (kD p39 (oFld 1 g6) <|
 kD p40 (oLd false 1 g39) <|
 kD p41 (o_neq g40 (ci 2)) <|
 kCond g41 (kExit 1) <|
 kEnd) <|
 kD p42 (oFld 0 g6) <|
 kD p43 (oLd false 1 g42) <|
 kCall p44 (cF 77 (aC g43 aN)) <|
 kD p7 (oMov g44) <|
 kSeq (kD p45 (oMov g7) <|
 kD p46 (o_eql g45 (kV (.str []))) <|
 kD p47 (oMov g46) <|
 kD p48 (oG g47 false (oMov g4)) <|
 kD p49 (oG g47 false (o_neq g48 (kV (.str [])))) <|
 kD p50 (oG g47 false (oMov g49)) <|
 kD p51 (oG g50 true (oMov g4)) <|
 kD p52 (oG g50 true (oMov g7)) <|
 kD p53 (oG g50 true (o_neq g51 g52)) <|
 kD p54 (oG g47 false (oPick g50 g53 (kV (.bool false)))) <|
 kD p55 (oPick g47 (kV (.bool true)) g54) <|
 kCond g55 (kD p2 (oMov (kV (.str []))) <|
 kD p3 (oMov (kV (.bool false))) <|
 kRet) <|
 kEnd) <|
 kD p56 (oMov g7) <|
 kD p4 (oMov g56) <|
 kEnd) <|
 kD p57 (o_add g35 (ci 1)) <|
 kD p35 (oMov g57) <|
 kEnd) <|
 kD p58 (oMov g4) <|
 kD p59 (oMov g4) <|
 kD p60 (o_neq g59 (kV (.str []))) <|
 kD p61 (oMov g60) <|
 kD p62 (oG g61 true (oMov g0)) <|
 kD p63 (oG g61 true (oNil g62)) <|
 kD p64 (oG g61 true (oFld 1 g63)) <|
 kD p65 (oG g61 true (oLd false 1 g64)) <|
 kD p66 (oG g61 true (oNil g65)) <|
 kD p67 (oG g61 true (oFld 2 g66)) <|
 kD p68 (oG g61 true (oLd false 1 g67)) <|
 kD p69 (oG g61 true (oMov g4)) <|
 kCall p70 (cG g61 true (cF 108 (aC g68 (aC g69 aN)))) <|
 kD p71 (oPick g61 g70 (kV (.bool false))) <|
 kD p72 (oMov g71) <|
 kD p73 (oG g72 true (oMov g0)) <|
 kD p74 (oG g72 true (oNil g73)) <|
 kD p75 (oG g72 true (oFld 1 g74)) <|
 kD p76 (oG g72 true (oLd false 1 g75)) <|
 kD p77 (oG g72 true (oNil g76)) <|
 kD p78 (oG g72 true (oFld 2 g77)) <|
 kD p79 (oG g72 true (oLd false 1 g78)) <|
 kD p80 (oG g72 true (oMov g4)) <|
 kCall p81 (cG g72 true (cF 113 (aC g79 (aC g80 aN)))) <|
 kD p82 (oG g72 true (oNot g81)) <|
 kD p83 (oPick g72 g82 (kV (.bool false))) <|
 kD p84 (oMov g83) <|
 kD p85 (oG g84 true (oMov g4)) <|
 kD p86 (oG g84 true (oMov g0)) <|
 kD p87 (oG g84 true (oNil g86)) <|
 kD p88 (oG g84 true (oFld 2 g87)) <|
 kD p89 (oG g84 true (oLd false 1 g88)) <|
 kD p90 (oG g84 true (oNil g89)) <|
 kD p91 (oG g84 true (oFld 0 g90)) <|
 kD p92 (oG g84 true (oLd false 1 g91)) <|
 kCall p93 (cG g84 true (cF 108 (aC g85 (aC g92 aN)))) <|
 kD p94 (oPick g84 g93 (kV (.bool false))) <|
 kD p2 (oMov g58) <|
 kD p3 (oMov g94) <|
 kRet,
 (r2 g2 g3)⟩
/-- wimple/class.hosts -/
noncomputable def k143 : FnK := ⟨kD p2 (oMov (kV (.ref .nilsl))) <|
 kD p3 (oMov (ci 0)) <|
 kD p4 (oMov (kV (.ref .nilsl))) <|
 kD p5 (oMov (ci 86400)) <|
 kSeq (kD p10 (oMov g0) <|
 kD p11 (oLenS g10) <|
 kD p12 (oMov (ci 0)) <|
 kBlock 0 <|
 kLoop <|
 kD p13 (o_lss g12 g11) <|
 kSeq (kCond g13 (kEnd) <|
 kExit 0) <|
 kSeq (kBlock 1 <|
 kD p14 (oIdx 5 g10 g12) <|
 kD p15 (oLd true 5 g14) <|
 kD p7 (oAlloc [(.str []), (vi 0), (vi 0), (vi 0), (.str [])]) <|
 kD0 (oSt 5 g7 g15) <|
 kSeq (kD p16 (oFld 1 g7) <|
 kD p17 (oLd false 1 g16) <|
 kD p18 (o_neq g17 (ci 2)) <|
 kCond g18 (kExit 1) <|
 kEnd) <|
 kD p20 (oFld 1 g7) <|
 kD p21 (oLd false 1 g20) <|
 kD p22 (oFld 4 g7) <|
 kD p23 (oLd false 1 g22) <|
 kCall p24 (cF 194 (aC g21 (aC g23 aN))) <|
 kD p19 (oMov g24) <|
 kD p25 (oExt g19 0) <|
 kD p26 (oExt g19 1) <|
 kD p8 (oMov g25) <|
 kD p9 (oMov g26) <|
 kD p27 (oMov g9) <|
 kD p28 (o_eql g27 (ci 0)) <|
 kCond g28 (kD p29 (oMov g5) <|
 kD p30 (oFld 3 g7) <|
 kD p31 (oLd false 1 g30) <|
 kD p32 (oPs (.minI (.t s29) [(.t s31)])) <|
 kD p5 (oMov g32) <|
 kD p33 (oMov g4) <|
 kD p34 (oMov g8) <|
 kCall p35 (cF 77 (aC g34 aN)) <|
 kD p36 (oAs (.bsl true false 0 1 1 [(.str [])] [(0, (.t s35))])) <|
 kD p37 (oEs (.app true false 0 1 (.t s33) (.t s36))) <|
 kD p4 (oMov g37) <|
 kEnd) <|
 kEnd) <|
 kD p38 (o_add g12 (ci 1)) <|
 kD p12 (oMov g38) <|
 kEnd) <|
 kD p39 (oMov g4) <|
 kCall p40 (cF 195 (aC g39 (aC (kF 150) aN))) <|
 kD p41 (oMov g4) <|
 kCall p42 (cF 196 (aC g41 aN)) <|
 kD p4 (oMov g42) <|
 kD p43 (oMov g4) <|
 kD p44 (oMov g4) <|
 kD p45 (oLenS g44) <|
 kD p46 (oPs (.minI (.t s45) [(.k (vi 8))])) <|
 kD p47 (oSlc 1 g43 none (some g46) (oPs (.slc 1 (.t s43) none (some (.t s46)) none))) <|
 kD p48 (oMov g5) <|
 kD p2 (oMov g47) <|
 kD p3 (oMov g48) <|
 kRet,
 (r2 g2 g3)⟩
/-- wimple/class.glue -/
noncomputable def k144 : FnK := ⟨kD p4 (oMov (kV (.ref .nilsl))) <|
 kD p5 (oMov (kV (.ref .nilsl))) <|
 kSeq (kD p12 (oMov g0) <|
 kD p13 (oLenS g12) <|
 kD p14 (oMov (ci 0)) <|
 kBlock 0 <|
 kLoop <|
 kD p15 (o_lss g14 g13) <|
 kSeq (kCond g15 (kEnd) <|
 kExit 0) <|
 kSeq (kBlock 1 <|
 kD p16 (oIdx 5 g12 g14) <|
 kD p17 (oLd true 5 g16) <|
 kD p7 (oAlloc [(.str []), (vi 0), (vi 0), (vi 0), (.str [])]) <|
 kD0 (oSt 5 g7 g17) <|
 kD p18 (oFld 0 g7) <|
 kD p19 (oLd false 1 g18) <|
 kCall p20 (cF 77 (aC g19 aN)) <|
 kD p8 (oAlloc [(.str [])]) <|
 kD0 (oSt 1 g8 g20) <|
 kD p22 (oFld 4 g7) <|
 kD p23 (oLd false 1 g22) <|
 kCall p24 (cF 154 (aC g23 aN)) <|
 kD p21 (oMov g24) <|
 kD p25 (oExt g21 0) <|
 kD p26 (oExt g21 1) <|
 kD p9 (oAlloc [(vi 0)]) <|
 kD0 (oSt 1 g9 g25) <|
 kD p10 (oMov g26) <|
 kD p27 (oPs (.mkf 197 [] [(.t s8), (.t s9)])) <|
 kD p11 (oMov g27) <|
 kD p28 (oFld 1 g7) <|
 kD p29 (oLd false 1 g28) <|
 kD p30 (o_eql g29 (ci 1)) <|
 kD p31 (oMov g30) <|
 kD p32 (oG g31 true (oMov g10)) <|
 kD p33 (oG g31 true (o_eql g32 (ci 0))) <|
 kD p34 (oPick g31 g33 (kV (.bool false))) <|
 kD p35 (oMov g34) <|
 kD p36 (oG g35 true (oMov g1)) <|
 kD p37 (oG g35 true (oLd false 1 g8)) <|
 kCall p38 (cG g35 true (cF 78 (aC g36 (aC g37 aN)))) <|
 kD p39 (oPick g35 g38 (kV (.bool false))) <|
 kD p40 (oMov g39) <|
 kD p41 (oG g40 true (oMov g5)) <|
 kD p42 (oG g40 true (oMov g11)) <|
 kCall p43 (cG g40 true (cF 180 (aC g41 (aC g42 aN)))) <|
 kD p44 (oG g40 true (oNot g43)) <|
 kD p45 (oPick g40 g44 (kV (.bool false))) <|
 kD p46 (oMov g45) <|
 kD p47 (oG g46 true (oMov g5)) <|
 kD p48 (oG g46 true (oLenS g47)) <|
 kD p49 (oG g46 true (o_lss g48 (ci 8))) <|
 kD p50 (oPick g46 g49 (kV (.bool false))) <|
 kCond g50 (kD p51 (oMov g5) <|
 kD p52 (oLd false 1 g8) <|
 kD p53 (oLd false 1 g9) <|
 kD p54 (oFld 3 g7) <|
 kD p55 (oLd false 1 g54) <|
 kD p56 (oPs (.minI (.t s55) [(.k (vi 86400))])) <|
 kD p57 (oBuild [(.str []), (.str []), (vi 0), (.str []), (vi 0)] (bC 1 1 g52 (bC 2 1 g53 (bC 4 1 g56 bN)))) <|
 kD p58 (oAs (.bsl false true 0 5 1 [(.str []), (.str []), (vi 0), (.str []), (vi 0)] [(0, (.t s57))])) <|
 kD p59 (oApp 0 5 g51 g58 (oEs (.app false true 0 5 (.t s51) (.t s58)))) <|
 kD p5 (oMov g59) <|
 kEnd) <|
 kEnd) <|
 kD p60 (o_add g14 (ci 1)) <|
 kD p14 (oMov g60) <|
 kEnd) <|
 kD p61 (oMov g5) <|
 kD p4 (oMov g61) <|
 kRet,
 (r1 g4)⟩
/-- wimple/cuts.made -/
noncomputable def k145 : FnK := ⟨kD p6 (oMov (kV (.ref .nilptr))) <|
 kD p7 (oMov (kV (.bool false))) <|
 kD p15 (oMov g0) <|
 kD p16 (oNil g15) <|
 kD p17 (oFld 1 g16) <|
 kD p18 (oLd false 1 g17) <|
 kCall p19 (cF 198 (aC g18 aN)) <|
 kD p14 (oMov g19) <|
 kD p20 (oExt g14 0) <|
 kD p21 (oExt g14 1) <|
 kD p8 (oMov g20) <|
 kD p9 (oMov g21) <|
 kSeq (kD p22 (oMov g9) <|
 kD p23 (oNot g22) <|
 kD p24 (oMov g23) <|
 kD p25 (oG g24 false (oMov g0)) <|
 kD p26 (oG g24 false (oNil g25)) <|
 kD p27 (oG g24 false (oFld 2 g26)) <|
 kD p28 (oG g24 false (oLd false 1 g27)) <|
 kD p29 (oG g24 false (oLenS g28)) <|
 kD p30 (oG g24 false (o_gtr g29 (ci 8))) <|
 kD p31 (oPick g24 (kV (.bool true)) g30) <|
 kD p32 (oMov g31) <|
 kD p33 (oG g32 false (oMov g1)) <|
 kCall p34 (cG g32 false (cF 75 (aC g33 aN))) <|
 kD p35 (oG g32 false (oNot g34)) <|
 kD p36 (oPick g32 (kV (.bool true)) g35) <|
 kD p37 (oMov g36) <|
 kD p38 (oG g37 false (oMov g1)) <|
 kD p39 (oG g37 false (oMov g0)) <|
 kD p40 (oG g37 false (oNil g39)) <|
 kD p41 (oG g37 false (oFld 0 g40)) <|
 kD p42 (oG g37 false (oLd false 1 g41)) <|
 kCall p43 (cG g37 false (cF 108 (aC g38 (aC g42 aN)))) <|
 kD p44 (oG g37 false (oNot g43)) <|
 kD p45 (oPick g37 (kV (.bool true)) g44) <|
 kD p46 (oMov g45) <|
 kD p47 (oG g46 false (oMov g1)) <|
 kD p48 (oG g46 false (oMov g0)) <|
 kD p49 (oG g46 false (oNil g48)) <|
 kD p50 (oG g46 false (oFld 0 g49)) <|
 kD p51 (oG g46 false (oLd false 1 g50)) <|
 kCall p52 (cG g46 false (cF 113 (aC g47 (aC g51 aN)))) <|
 kD p53 (oPick g46 (kV (.bool true)) g52) <|
 kD p54 (oMov g53) <|
 kD p55 (oG g54 false (oMov g2)) <|
 kD p56 (oG g54 false (o_lss g55 (ci 0))) <|
 kD p57 (oPick g54 (kV (.bool true)) g56) <|
 kD p58 (oMov g57) <|
 kD p59 (oG g58 false (oMov g2)) <|
 kD p60 (oG g58 false (o_gtr g59 (ci 1099511627776))) <|
 kD p61 (oPick g58 (kV (.bool true)) g60) <|
 kCond g61 (kD p6 (oMov (kV (.ref .nilptr))) <|
 kD p7 (oMov (kV (.bool false))) <|
 kRet) <|
 kEnd) <|
 kD p62 (oMov g8) <|
 kD p63 (oMov g2) <|
 kD p64 (oMov g0) <|
 kD p65 (oNil g64) <|
 kD p66 (oFld 3 g65) <|
 kD p67 (oLd false 1 g66) <|
 kCall p68 (cF 199 (aC g63 (aC g67 aN))) <|
 kD p69 (oMov g1) <|
 kCall p70 (cF 77 (aC g69 aN)) <|
 kD p71 (oBuild [(.ref .nilsl), (.ref .nilsl), (vi 0), (.str [])] (bC 0 1 g62 (bC 2 1 g68 (bC 3 1 g70 bN)))) <|
 kD p72 (oBox g71) <|
 kD p10 (oMov g72) <|
 kSeq (kD p73 (oMov g0) <|
 kD p74 (oNil g73) <|
 kD p75 (oFld 2 g74) <|
 kD p76 (oLd false 1 g75) <|
 kD p77 (oLenS g76) <|
 kD p78 (oMov (ci 0)) <|
 kBlock 0 <|
 kLoop <|
 kD p79 (o_lss g78 g77) <|
 kSeq (kCond g79 (kEnd) <|
 kExit 0) <|
 kSeq (kBlock 1 <|
 kD p80 (oIdx 5 g76 g78) <|
 kD p81 (oLd true 5 g80) <|
 kD p12 (oAlloc [(.str []), (.str []), (vi 0), (.str []), (vi 0)]) <|
 kD0 (oSt 5 g12 g81) <|
 kD p82 (oFld 1 g12) <|
 kD p83 (oLd false 1 g82) <|
 kCall p84 (cF 77 (aC g83 aN)) <|
 kD p13 (oAlloc [(.str [])]) <|
 kD0 (oSt 1 g13 g84) <|
 kSeq (kD p85 (oMov g8) <|
 kD p86 (oLd false 1 g13) <|
 kCall p87 (cF 78 (aC g85 (aC g86 aN))) <|
 kD p88 (oNot g87) <|
 kD p89 (oMov g88) <|
 kD p90 (oG g89 false (oFld 2 g12)) <|
 kD p91 (oG g89 false (oLd false 1 g90)) <|
 kCall p92 (cG g89 false (cF 76 (aC g91 aN))) <|
 kD p93 (oG g89 false (oNot g92)) <|
 kD p94 (oPick g89 (kV (.bool true)) g93) <|
 kCond g94 (kD p6 (oMov (kV (.ref .nilptr))) <|
 kD p7 (oMov (kV (.bool false))) <|
 kRet) <|
 kEnd) <|
 kD p95 (oMov g10) <|
 kD p96 (oNil g95) <|
 kD p97 (oFld 1 g96) <|
 kD p98 (oLd false 1 g97) <|
 kD p99 (oPs (.mkf 200 [] [(.t s13), (.t s12)])) <|
 kCall p100 (cF 180 (aC g98 (aC g99 aN))) <|
 kD p101 (oNot g100) <|
 kCond g101 (kD p102 (oMov g10) <|
 kD p103 (oMov g10) <|
 kD p104 (oNil g103) <|
 kD p105 (oFld 1 g104) <|
 kD p106 (oLd false 1 g105) <|
 kD p107 (oMov g0) <|
 kD p108 (oNil g107) <|
 kD p109 (oFld 0 g108) <|
 kD p110 (oLd false 1 g109) <|
 kD p112 (oLd false 1 g13) <|
 kD p113 (oFld 2 g12) <|
 kD p114 (oLd false 1 g113) <|
 kD p115 (oMov g10) <|
 kD p116 (oNil g115) <|
 kD p117 (oFld 3 g116) <|
 kD p118 (oLd false 1 g117) <|
 kD p119 (oMov g2) <|
 kD p120 (oFld 4 g12) <|
 kD p121 (oLd false 1 g120) <|
 kCall p111 (cF 77 (aC g110 aN)) <|
 kChk g121 (oLd false 1 g120) <|
 kChk g118 (oLd false 1 g117) <|
 kChk g114 (oLd false 1 g113) <|
 kChk g112 (oLd false 1 g13) <|
 kChk g106 (oLd false 1 g105) <|
 kCall p122 (cF 199 (aC g119 (aC g121 aN))) <|
 kChk g118 (oLd false 1 g117) <|
 kChk g114 (oLd false 1 g113) <|
 kChk g112 (oLd false 1 g13) <|
 kChk g106 (oLd false 1 g105) <|
 kD p123 (oBuild [(.str []), (.str []), (vi 0), (.str []), (vi 0)] (bC 0 1 g111 (bC 1 1 g112 (bC 2 1 g114 (bC 3 1 g118 (bC 4 1 g122 bN)))))) <|
 kD p124 (oAs (.bsl false true 0 5 1 [(.str []), (.str []), (vi 0), (.str []), (vi 0)] [(0, (.t s123))])) <|
 kD p125 (oApp 0 5 g106 g124 (oEs (.app false true 0 5 (.t s106) (.t s124)))) <|
 kD p126 (oNil g102) <|
 kD p127 (oFld 1 g126) <|
 kD0 (oSt 1 g127 g125) <|
 kEnd) <|
 kEnd) <|
 kD p128 (o_add g78 (ci 1)) <|
 kD p78 (oMov g128) <|
 kEnd) <|
 kD p129 (oMov g10) <|
 kD p6 (oMov g129) <|
 kD p7 (oMov (kV (.bool true))) <|
 kRet,
 (r2 g6 g7)⟩
/-- maps.DeleteFunc[map[string]*wimple/cuts.cut,string,*wimple/cuts.cut] -/
noncomputable def k146 : FnK := ⟨kD p6 (oMov g0) <|
 kD p7 (oEs (.rng (.t s6))) <|
 kBlock 0 <|
 kLoop <|
 kD p8 (oEs (.nxt (.t s7))) <|
 kD p9 (oExt g8 0) <|
 kSeq (kCond g9 (kEnd) <|
 kExit 0) <|
 kBlock 1 <|
 kD p10 (oRs (.ent (.t s7))) <|
 kD p11 (oExt g10 0) <|
 kD p12 (oExt g10 1) <|
 kD p4 (oMov g11) <|
 kD p5 (oMov g12) <|
 kD p13 (oMov g1) <|
 kD p14 (oMov g4) <|
 kD p15 (oMov g5) <|
 kCall p16 (cV g13 (aC g14 (aC g15 aN))) <|
 kCond g16 (kD p17 (oMov g0) <|
 kD p18 (oMov g4) <|
 kD0 (oEs (.del ⟨false, [.str]⟩ (.t s17) (.t s18))) <|
 kEnd) <|
 kEnd,
 (rS [])⟩
/-- wimple/rdata.Addr -/
noncomputable def k154 : FnK := ⟨kD p2 (oMov (ci 0)) <|
 kD p3 (oMov (ci 0)) <|
 kSeq (kD p7 (oMov g0) <|
 kD p8 (oLenT g7) <|
 kD p9 (o_neq g8 (ci 4)) <|
 kCond g9 (kD p2 (oMov (ci 0)) <|
 kD p3 (oMov (ci 400)) <|
 kRet) <|
 kEnd) <|
 kD p11 (oMov g0) <|
 kCall p12 (cF 188 (aC g11 (aC (ci 0) aN))) <|
 kD p10 (oMov g12) <|
 kD p13 (oExt g10 0) <|
 kD p14 (oExt g10 1) <|
 kD p15 (oExt g10 2) <|
 kD p4 (oMov g13) <|
 kD p5 (oMov g14) <|
 kD p6 (oMov g15) <|
 kD p16 (oMov g4) <|
 kD p2 (oMov g16) <|
 kD p3 (oMov (ci 0)) <|
 kRet,
 (r2 g2 g3)⟩
/-- (*wimple/cuts.Cuts).Learn -/
noncomputable def k155 : FnK := ⟨kD p7 (oBox g2) <|
 kD p15 (oMov g1) <|
 kCall p16 (cF 77 (aC g15 aN)) <|
 kD p10 (oAlloc [(.str [])]) <|
 kD0 (oSt 1 g10 g16) <|
 kSeq (kD p17 (oMov g0) <|
 kD p18 (oPs (.eqx false .p (.t s17) (.k (.ref .nilptr)))) <|
 kD p19 (oMov g18) <|
 kD p20 (oG g19 false (oLd false 1 g10)) <|
 kD p21 (oG g19 false (o_eql g20 (kV (.str [])))) <|
 kD p22 (oPick g19 (kV (.bool true)) g21) <|
 kD p23 (oMov g22) <|
 kD p24 (oG g23 false (oMov g3)) <|
 kD p25 (oG g23 false (oMov g4)) <|
 kD p26 (oG g23 false (o_leq g24 g25)) <|
 kD p27 (oPick g23 (kV (.bool true)) g26) <|
 kD p28 (oMov g27) <|
 kD p29 (oG g28 false (oLd false 1 g7)) <|
 kCall p30 (cG g28 false (cF 76 (aC g29 aN))) <|
 kD p31 (oG g28 false (oNot g30)) <|
 kD p32 (oPick g28 (kV (.bool true)) g31) <|
 kCond g32 (kRet) <|
 kEnd) <|
 kD p33 (oMov g0) <|
 kD p34 (oNil g33) <|
 kD p35 (oFld 4 g34) <|
 kD p36 (oLd false 1 g35) <|
 kD p37 (oEs (.rng (.t s36))) <|
 kBlock 0 <|
 kLoop <|
 kD p38 (oEs (.nxt (.t s37))) <|
 kD p39 (oExt g38 0) <|
 kSeq (kCond g39 (kEnd) <|
 kExit 0) <|
 kBlock 1 <|
 kD p40 (oRs (.ent (.t s37))) <|
 kD p41 (oExt g40 0) <|
 kD p42 (oExt g40 1) <|
 kD p11 (oMov g41) <|
 kD p12 (oMov g42) <|
 kSeq (kD p43 (oMov g4) <|
 kD p44 (oMov g12) <|
 kD p45 (oNil g44) <|
 kD p46 (oFld 2 g45) <|
 kD p47 (oLd false 1 g46) <|
 kD p48 (o_geq g43 g47) <|
 kD p49 (oMov g48) <|
 kD p50 (oG g49 false (oMov g12)) <|
 kD p51 (oG g49 false (oNil g50)) <|
 kD p52 (oG g49 false (oFld 0 g51)) <|
 kD p53 (oG g49 false (oLd false 1 g52)) <|
 kD p54 (oG g49 false (oLd false 1 g10)) <|
 kCall p55 (cG g49 false (cF 78 (aC g53 (aC g54 aN)))) <|
 kD p56 (oG g49 false (oNot g55)) <|
 kD p57 (oPick g49 (kV (.bool true)) g56) <|
 kCond g57 (kExit 1) <|
 kEnd) <|
 kD p58 (oMov g12) <|
 kD p59 (oMov g4) <|
 kCall p60 (cF 116 (aC g58 (aC g59 aN))) <|
 kD p13 (oMov g60) <|
 kD p61 (oMov g13) <|
 kD p62 (oPs (.mkf 205 [] [(.t s10), (.t s7)])) <|
 kCall p63 (cF 180 (aC g61 (aC g62 aN))) <|
 kD p14 (oMov g63) <|
 kD p64 (oMov g14) <|
 kD p65 (oNot g64) <|
 kD p66 (oMov g65) <|
 kD p67 (oG g66 true (oMov g13)) <|
 kD p68 (oG g66 true (oLenS g67)) <|
 kD p69 (oG g66 true (o_lss g68 (ci 16))) <|
 kD p70 (oPick g66 g69 (kV (.bool false))) <|
 kCond g70 (kD p71 (oMov g12) <|
 kD p72 (oMov g12) <|
 kD p73 (oNil g72) <|
 kD p74 (oFld 1 g73) <|
 kD p75 (oLd false 1 g74) <|
 kD p76 (oMov g11) <|
 kD p77 (oLd false 1 g10) <|
 kD p78 (oLd false 1 g7) <|
 kD p79 (oMov g12) <|
 kD p80 (oNil g79) <|
 kD p81 (oFld 3 g80) <|
 kD p82 (oLd false 1 g81) <|
 kD p83 (oMov g3) <|
 kD p84 (oBuild [(.str []), (.str []), (vi 0), (.str []), (vi 0)] (bC 0 1 g76 (bC 1 1 g77 (bC 2 1 g78 (bC 3 1 g82 (bC 4 1 g83 bN)))))) <|
 kD p85 (oAs (.bsl false true 0 5 1 [(.str []), (.str []), (vi 0), (.str []), (vi 0)] [(0, (.t s84))])) <|
 kD p86 (oApp 0 5 g75 g85 (oEs (.app false true 0 5 (.t s75) (.t s85)))) <|
 kD p87 (oNil g71) <|
 kD p88 (oFld 1 g87) <|
 kD0 (oSt 1 g88 g86) <|
 kEnd) <|
 kEnd,
 (rS [])⟩
/-- (*wimple/job.Job).Pop -/
noncomputable def k156 : FnK := ⟨kD p2 (oMov g0) <|
 kD p3 (oPs (.eqx true .p (.t s2) (.k (.ref .nilptr)))) <|
 kD p4 (oMov g3) <|
 kD p5 (oG g4 true (oMov g0)) <|
 kD p6 (oG g4 true (oNil g5)) <|
 kD p7 (oG g4 true (oFld 1 g6)) <|
 kD p8 (oG g4 true (oLd false 1 g7)) <|
 kD p9 (oG g4 true (oLenS g8)) <|
 kD p10 (oG g4 true (o_gtr g9 (ci 0))) <|
 kD p11 (oPick g4 g10 (kV (.bool false))) <|
 kCond g11 (kD p12 (oMov g0) <|
 kD p13 (oMov g0) <|
 kD p14 (oNil g13) <|
 kD p15 (oFld 1 g14) <|
 kD p16 (oLd false 1 g15) <|
 kD p17 (oMov g0) <|
 kD p18 (oNil g17) <|
 kD p19 (oFld 1 g18) <|
 kD p20 (oLd false 1 g19) <|
 kD p21 (oLenS g20) <|
 kD p22 (o_sub g21 (ci 1)) <|
 kD p23 (oSlc 8 g16 none (some g22) (oPs (.slc 8 (.t s16) none (some (.t s22)) none))) <|
 kD p24 (oNil g12) <|
 kD p25 (oFld 1 g24) <|
 kD0 (oSt 1 g25 g23) <|
 kEnd) <|
 kEnd,
 (rS [])⟩
/-- wimple/sets.Group -/
noncomputable def k157 : FnK := ⟨kD p2 (oMov (kV (.ref .nilsl))) <|
 kD p3 (oMov (ci 0)) <|
 kSeq (kD p12 (oMov g0) <|
 kD p13 (oLenS g12) <|
 kD p14 (o_gtr g13 (ci 64)) <|
 kCond g14 (kD p2 (oMov (kV (.ref .nilsl))) <|
 kD p3 (oMov (ci 1100)) <|
 kRet) <|
 kEnd) <|
 kD p15 (oAs .mkm) <|
 kD p4 (oMov g15) <|
 kD p5 (oMov (kV (.ref .nilsl))) <|
 kSeq (kD p16 (oMov g0) <|
 kD p17 (oLenS g16) <|
 kD p18 (oMov (ci 0)) <|
 kBlock 0 <|
 kLoop <|
 kD p19 (o_lss g18 g17) <|
 kSeq (kCond g19 (kEnd) <|
 kExit 0) <|
 kSeq (kBlock 1 <|
 kD p20 (oIdx 5 g16 g18) <|
 kD p21 (oLd true 5 g20) <|
 kD p7 (oAlloc [(.str []), (vi 0), (vi 0), (vi 0), (.str [])]) <|
 kD0 (oSt 5 g7 g21) <|
 kSeq (kD p22 (oFld 0 g7) <|
 kD p23 (oLd false 1 g22) <|
 kCall p24 (cF 75 (aC g23 aN)) <|
 kD p25 (oNot g24) <|
 kD p26 (oMov g25) <|
 kD p27 (oG g26 false (oFld 3 g7)) <|
 kD p28 (oG g26 false (oLd false 1 g27)) <|
 kD p29 (oG g26 false (o_lss g28 (ci 0))) <|
 kD p30 (oPick g26 (kV (.bool true)) g29) <|
 kD p31 (oMov g30) <|
 kD p32 (oG g31 false (oFld 3 g7)) <|
 kD p33 (oG g31 false (oLd false 1 g32)) <|
 kD p34 (oG g31 false (o_gtr g33 (ci 4294967295))) <|
 kD p35 (oPick g31 (kV (.bool true)) g34) <|
 kD p36 (oMov g35) <|
 kD p37 (oG g36 false (oFld 1 g7)) <|
 kD p38 (oG g36 false (oLd false 1 g37)) <|
 kD p39 (oG g36 false (oFld 4 g7)) <|
 kD p40 (oG g36 false (oLd false 1 g39)) <|
 kCall p41 (cG g36 false (cF 206 (aC g38 (aC g40 aN)))) <|
 kD p42 (oG g36 false (oNot g41)) <|
 kD p43 (oPick g36 (kV (.bool true)) g42) <|
 kCond g43 (kD p2 (oMov (kV (.ref .nilsl))) <|
 kD p3 (oMov (ci 1100)) <|
 kRet) <|
 kEnd) <|
 kSeq (kD p44 (oFld 2 g7) <|
 kD p45 (oLd false 1 g44) <|
 kD p46 (o_neq g45 (ci 1)) <|
 kCond g46 (kExit 1) <|
 kEnd) <|
 kD p47 (oFld 0 g7) <|
 kD p48 (oLd false 1 g47) <|
 kD p50 (oFld 1 g7) <|
 kD p51 (oLd false 1 g50) <|
 kD p8 (oAlloc [(.str []), (vi 0)]) <|
 kCall p49 (cF 77 (aC g48 aN)) <|
 kChk g51 (oLd false 1 g50) <|
 kD p52 (oBuild [(.str []), (vi 0)] (bC 0 1 g49 (bC 1 1 g51 bN))) <|
 kD0 (oSt 2 g8 g52) <|
 kD p54 (oMov g4) <|
 kD p55 (oLd true 2 g8) <|
 kD p56 (oRs (.lkp ⟨true, [.str, (.int .i64)]⟩ true (vi 0) (.t s54) (.t s55))) <|
 kD p53 (oMov g56) <|
 kD p57 (oExt g53 0) <|
 kD p58 (oExt g53 1) <|
 kD p9 (oMov g57) <|
 kD p10 (oMov g58) <|
 kSeq (kD p59 (oMov g10) <|
 kD p60 (oNot g59) <|
 kCond g60 (kD p61 (oMov g5) <|
 kD p62 (oLenS g61) <|
 kD p9 (oMov g62) <|
 kD p63 (oMov g4) <|
 kD p64 (oLd true 2 g8) <|
 kD p65 (oMov g9) <|
 kD0 (oEs (.mup ⟨true, [.str, (.int .i64)]⟩ (.t s63) (.t s64) (.t s65))) <|
 kD p66 (oMov g5) <|
 kD p67 (oFld 0 g8) <|
 kD p68 (oLd false 1 g67) <|
 kD p69 (oFld 1 g8) <|
 kD p70 (oLd false 1 g69) <|
 kD p71 (oBuild [(.str []), (vi 0), (vi 0), (.ref .nilsl)] (bC 0 1 g68 (bC 1 1 g70 (bC 2 1 (ci 86400) bN)))) <|
 kD p72 (oAs (.bsl true true 0 4 1 [(.str []), (vi 0), (vi 0), (.ref .nilsl)] [(0, (.t s71))])) <|
 kD p73 (oEs (.app true true 0 4 (.t s66) (.t s72))) <|
 kD p5 (oMov g73) <|
 kEnd) <|
 kEnd) <|
 kD p74 (oMov g5) <|
 kD p75 (oMov g9) <|
 kD p76 (oMov g5) <|
 kD p77 (oMov g9) <|
 kD p78 (oIdx 4 g76 g77) <|
 kD p79 (oFld 2 g78) <|
 kD p80 (oLd false 1 g79) <|
 kD p81 (oFld 3 g7) <|
 kD p82 (oLd false 1 g81) <|
 kD p83 (oPs (.minI (.t s80) [(.t s82)])) <|
 kD p84 (oIdx 4 g74 g75) <|
 kD p85 (oFld 2 g84) <|
 kD0 (oSt 1 g85 g83) <|
 kD p86 (oMov g5) <|
 kD p87 (oMov g9) <|
 kD p88 (oMov g5) <|
 kD p89 (oMov g9) <|
 kD p90 (oIdx 4 g88 g89) <|
 kD p91 (oFld 3 g90) <|
 kD p92 (oLd false 1 g91) <|
 kD p93 (oFld 4 g7) <|
 kD p94 (oLd false 1 g93) <|
 kD p95 (oAs (.bsl true false 0 1 1 [(.str [])] [(0, (.t s94))])) <|
 kD p96 (oEs (.app true false 0 1 (.t s92) (.t s95))) <|
 kD p97 (oIdx 4 g86 g87) <|
 kD p98 (oFld 3 g97) <|
 kD0 (oSt 1 g98 g96) <|
 kEnd) <|
 kD p99 (o_add g18 (ci 1)) <|
 kD p18 (oMov g99) <|
 kEnd) <|
 kSeq (kD p100 (oMov g5) <|
 kD p101 (oLenS g100) <|
 kD p102 (oMov (ci 0)) <|
 kBlock 2 <|
 kLoop <|
 kD p103 (o_lss g102 g101) <|
 kSeq (kCond g103 (kEnd) <|
 kExit 2) <|
 kSeq (kBlock 3 <|
 kD p104 (oMov g102) <|
 kD p11 (oMov g104) <|
 kD p105 (oMov g5) <|
 kD p106 (oMov g11) <|
 kD p107 (oIdx 4 g105 g106) <|
 kD p108 (oFld 3 g107) <|
 kD p109 (oLd false 1 g108) <|
 kCall p110 (cF 207 (aC g109 aN)) <|
 kD p111 (oMov g5) <|
 kD p112 (oMov g11) <|
 kD p113 (oMov g5) <|
 kD p114 (oMov g11) <|
 kD p115 (oIdx 4 g113 g114) <|
 kD p116 (oFld 3 g115) <|
 kD p117 (oLd false 1 g116) <|
 kCall p118 (cF 196 (aC g117 aN)) <|
 kD p119 (oIdx 4 g111 g112) <|
 kD p120 (oFld 3 g119) <|
 kD0 (oSt 1 g120 g118) <|
 kEnd) <|
 kD p121 (o_add g102 (ci 1)) <|
 kD p102 (oMov g121) <|
 kEnd) <|
 kD p122 (oMov g5) <|
 kD p2 (oMov g122) <|
 kD p3 (oMov (ci 0)) <|
 kRet,
 (r2 g2 g3)⟩
/-- slices.IndexFunc[[]wimple/api.Set,wimple/api.Set] -/
noncomputable def k158 : FnK := ⟨kD p4 (oMov (ci 0)) <|
 kSeq (kD p6 (oMov g0) <|
 kD p7 (oLenS g6) <|
 kD p8 (oMov (ci 0)) <|
 kBlock 0 <|
 kLoop <|
 kD p9 (o_lss g8 g7) <|
 kSeq (kCond g9 (kEnd) <|
 kExit 0) <|
 kSeq (kBlock 1 <|
 kD p10 (oMov g8) <|
 kD p5 (oMov g10) <|
 kD p11 (oMov g1) <|
 kD p12 (oMov g0) <|
 kD p13 (oMov g5) <|
 kD p14 (oIdx 4 g12 g13) <|
 kD p15 (oLd true 4 g14) <|
 kCall p16 (cV g11 (aC g15 aN)) <|
 kCond g16 (kD p17 (oMov g5) <|
 kD p4 (oMov g17) <|
 kRet) <|
 kEnd) <|
 kD p18 (o_add g8 (ci 1)) <|
 kD p8 (oMov g18) <|
 kEnd) <|
 kD p4 (oMov (kV (.int .i64 (.c (.negSucc 0))))) <|
 kRet,
 (r1 g4)⟩
/-- (*wimple/iter.Resolver).put$1 -/
noncomputable def k159 : FnK := ⟨kD p3 (oBox g0) <|
 kD p4 (oMov (kV (.bool false))) <|
 kD p5 (oFld 0 g3) <|
 kD p6 (oLd false 1 g5) <|
 kD p7 (oLd false 1 g1) <|
 kD p8 (o_eql g6 g7) <|
 kD p9 (oMov g8) <|
 kD p10 (oG g9 true (oFld 1 g3)) <|
 kD p11 (oG g9 true (oLd false 1 g10)) <|
 kD p12 (oG g9 true (oLd false 1 g2)) <|
 kD p13 (oG g9 true (o_eql g11 g12)) <|
 kD p14 (oPick g9 g13 (kV (.bool false))) <|
 kD p4 (oMov g14) <|
 kRet,
 (r1 g4)⟩
/-- (*wimple/store.Store).Put -/
noncomputable def k160 : FnK := ⟨kD p4 (oBox g1) <|
 kD p5 (oBox g2) <|
 kD p6 (oMov (ci 0)) <|
 kSeq (kBlock 0 <|
 kD p11 (oMov g0) <|
 kD p12 (oPs (.eqx false .p (.t s11) (.k (.ref .nilptr)))) <|
 kD p10 (oMov g12) <|
 kCond g10 (kD p6 (oMov (ci 1)) <|
 kRet) <|
 kD p14 (oLd false 1 g5) <|
 kCall p15 (cF 208 (aC g4 (aC g14 aN))) <|
 kD p16 (oNot g15) <|
 kD p13 (oMov g16) <|
 kCond g13 (kD p6 (oMov (ci 1300)) <|
 kRet) <|
 kEnd) <|
 kD p17 (oFld 0 g4) <|
 kD p18 (oFld 0 g17) <|
 kD p19 (oLd false 1 g18) <|
 kD p21 (oFld 0 g4) <|
 kD p22 (oFld 1 g21) <|
 kD p23 (oLd false 1 g22) <|
 kD p7 (oAlloc [(.str []), (vi 0)]) <|
 kCall p20 (cF 77 (aC g19 aN)) <|
 kChk g23 (oLd false 1 g22) <|
 kD p24 (oBuild [(.str []), (vi 0)] (bC 0 1 g20 (bC 1 1 g23 bN))) <|
 kD0 (oSt 2 g7 g24) <|
 kSeq (kD p26 (oMov g0) <|
 kD p27 (oNil g26) <|
 kD p28 (oFld 1 g27) <|
 kD p29 (oLd false 1 g28) <|
 kD p30 (oLd true 2 g7) <|
 kD p31 (oRs (.lkp ⟨true, [.str, (.int .i64)]⟩ true (.lst .agg [(.str []), (vi 0), (vi 0), (.ref .nilsl), (vi 0), (vi 0)]) (.t s29) (.t s30))) <|
 kD p25 (oMov g31) <|
 kD p32 (oExt g25 0) <|
 kD p33 (oExt g25 1) <|
 kD p8 (oAlloc [(.str []), (vi 0), (vi 0), (.ref .nilsl), (vi 0), (vi 0)]) <|
 kD0 (oSt 6 g8 g32) <|
 kD p9 (oMov g33) <|
 kD p34 (oMov g9) <|
 kD p35 (oMov g34) <|
 kD p36 (oG g35 true (oLd false 1 g5)) <|
 kD p37 (oG g35 true (oFld 5 g8)) <|
 kD p38 (oG g35 true (oLd false 1 g37)) <|
 kD p39 (oG g35 true (o_lss g36 g38)) <|
 kD p40 (oPick g35 g39 (kV (.bool false))) <|
 kD p41 (oMov g40) <|
 kD p42 (oG g41 true (oFld 4 g8)) <|
 kD p43 (oG g41 true (oLd false 1 g42)) <|
 kD p44 (oG g41 true (oFld 4 g4)) <|
 kD p45 (oG g41 true (oLd false 1 g44)) <|
 kD p46 (oG g41 true (o_gtr g43 g45)) <|
 kD p47 (oPick g41 g46 (kV (.bool false))) <|
 kCond g47 (kD p6 (oMov (ci 0)) <|
 kRet) <|
 kEnd) <|
 kD p48 (oMov g0) <|
 kD p49 (oNil g48) <|
 kD p50 (oFld 1 g49) <|
 kD p51 (oLd false 1 g50) <|
 kD p52 (oPs (.mkf 210 [] [(.t s7), (.t s5)])) <|
 kCall p53 (cF 209 (aC g51 (aC g52 aN))) <|
 kSeq (kD p54 (oMov g0) <|
 kD p55 (oNil g54) <|
 kD p56 (oFld 1 g55) <|
 kD p57 (oLd false 1 g56) <|
 kD p58 (oRs (.lenM (.t s57))) <|
 kD p59 (oMov g0) <|
 kD p60 (oNil g59) <|
 kD p61 (oFld 0 g60) <|
 kD p62 (oLd false 1 g61) <|
 kD p63 (o_geq g58 g62) <|
 kCond g63 (kD p64 (oMov g0) <|
 kCall p65 (cF 211 (aC g64 aN)) <|
 kEnd) <|
 kEnd) <|
 kD p66 (oFld 0 g7) <|
 kD p67 (oLd false 1 g66) <|
 kD p68 (oFld 0 g4) <|
 kD p69 (oFld 3 g68) <|
 kD p70 (oLd false 1 g69) <|
 kCall p71 (cF 38 (aC g70 aN)) <|
 kChk g67 (oLd false 1 g66) <|
 kD p72 (oFld 0 g4) <|
 kD p73 (oFld 0 g72) <|
 kD0 (oSt 1 g73 g67) <|
 kD p74 (oFld 0 g4) <|
 kD p75 (oFld 3 g74) <|
 kD0 (oSt 1 g75 g71) <|
 kD p76 (oMov g0) <|
 kD p77 (oNil g76) <|
 kD p78 (oFld 1 g77) <|
 kD p79 (oLd false 1 g78) <|
 kD p80 (oLd true 2 g7) <|
 kD p81 (oLd true 6 g4) <|
 kD0 (oEs (.mup ⟨true, [.str, (.int .i64)]⟩ (.t s79) (.t s80) (.t s81))) <|
 kD p6 (oMov (ci 0)) <|
 kRet,
 (r1 g6)⟩
end KK
end Den
