/- The slots of a frame as closures. -/
import Derived.Test.YtlldjadlhgonbaaGreatDenK
set_option linter.unusedVariables false
set_option linter.unusedSimpArgs false
set_option autoImplicit false
set_option maxRecDepth 100000
namespace Den
open Go
namespace KK
@[reducible] def vi (n : Nat) : AV := .int .i64 (.c (.ofNat n))
noncomputable def ci (n : Nat) : Og := fun _ => .int .i64 (.c (.ofNat n))
noncomputable def g0 : Og := fun e => (e.a).a.a
noncomputable def g1 : Og := fun e => (e.a).a.b
noncomputable def g2 : Og := fun e => (e.a).a.c
noncomputable def g3 : Og := fun e => (e.a).a.d
noncomputable def g4 : Og := fun e => (e.a).a.e
noncomputable def g5 : Og := fun e => (e.a).a.f
noncomputable def g6 : Og := fun e => (e.a).a.g
noncomputable def g7 : Og := fun e => (e.a).a.h
noncomputable def g8 : Og := fun e => (e.a).b.a
noncomputable def g9 : Og := fun e => (e.a).b.b
noncomputable def g10 : Og := fun e => (e.a).b.c
noncomputable def g11 : Og := fun e => (e.a).b.d
noncomputable def g12 : Og := fun e => (e.a).b.e
noncomputable def g13 : Og := fun e => (e.a).b.f
noncomputable def g14 : Og := fun e => (e.a).b.g
noncomputable def g15 : Og := fun e => (e.a).b.h
noncomputable def g16 : Og := fun e => (e.a).c.a
noncomputable def g17 : Og := fun e => (e.a).c.b
noncomputable def g18 : Og := fun e => (e.a).c.c
noncomputable def g19 : Og := fun e => (e.a).c.d
noncomputable def g20 : Og := fun e => (e.a).c.e
noncomputable def g21 : Og := fun e => (e.a).c.f
noncomputable def g22 : Og := fun e => (e.a).c.g
noncomputable def g23 : Og := fun e => (e.a).c.h
noncomputable def g24 : Og := fun e => (e.a).d.a
noncomputable def g25 : Og := fun e => (e.a).d.b
noncomputable def g26 : Og := fun e => (e.a).d.c
noncomputable def g27 : Og := fun e => (e.a).d.d
noncomputable def g28 : Og := fun e => (e.a).d.e
noncomputable def g29 : Og := fun e => (e.a).d.f
noncomputable def g30 : Og := fun e => (e.a).d.g
noncomputable def g31 : Og := fun e => (e.a).d.h
noncomputable def g32 : Og := fun e => (e.a).e.a
noncomputable def g33 : Og := fun e => (e.a).e.b
noncomputable def g34 : Og := fun e => (e.a).e.c
noncomputable def g35 : Og := fun e => (e.a).e.d
noncomputable def g36 : Og := fun e => (e.a).e.e
noncomputable def g37 : Og := fun e => (e.a).e.f
noncomputable def g38 : Og := fun e => (e.a).e.g
noncomputable def g39 : Og := fun e => (e.a).e.h
noncomputable def g40 : Og := fun e => (e.a).f.a
noncomputable def g41 : Og := fun e => (e.a).f.b
noncomputable def g42 : Og := fun e => (e.a).f.c
noncomputable def g43 : Og := fun e => (e.a).f.d
noncomputable def g44 : Og := fun e => (e.a).f.e
noncomputable def g45 : Og := fun e => (e.a).f.f
noncomputable def g46 : Og := fun e => (e.a).f.g
noncomputable def g47 : Og := fun e => (e.a).f.h
noncomputable def g48 : Og := fun e => (e.a).g.a
noncomputable def g49 : Og := fun e => (e.a).g.b
noncomputable def g50 : Og := fun e => (e.a).g.c
noncomputable def g51 : Og := fun e => (e.a).g.d
noncomputable def g52 : Og := fun e => (e.a).g.e
noncomputable def g53 : Og := fun e => (e.a).g.f
noncomputable def g54 : Og := fun e => (e.a).g.g
noncomputable def g55 : Og := fun e => (e.a).g.h
noncomputable def g56 : Og := fun e => (e.a).h.a
noncomputable def g57 : Og := fun e => (e.a).h.b
noncomputable def g58 : Og := fun e => (e.a).h.c
noncomputable def g59 : Og := fun e => (e.a).h.d
noncomputable def g60 : Og := fun e => (e.a).h.e
noncomputable def g61 : Og := fun e => (e.a).h.f
noncomputable def g62 : Og := fun e => (e.a).h.g
noncomputable def g63 : Og := fun e => (e.a).h.h
noncomputable def g64 : Og := fun e => (e.r.b).a.a
noncomputable def g65 : Og := fun e => (e.r.b).a.b
noncomputable def g66 : Og := fun e => (e.r.b).a.c
noncomputable def g67 : Og := fun e => (e.r.b).a.d
noncomputable def g68 : Og := fun e => (e.r.b).a.e
noncomputable def g69 : Og := fun e => (e.r.b).a.f
noncomputable def g70 : Og := fun e => (e.r.b).a.g
noncomputable def g71 : Og := fun e => (e.r.b).a.h
noncomputable def g72 : Og := fun e => (e.r.b).b.a
noncomputable def g73 : Og := fun e => (e.r.b).b.b
noncomputable def g74 : Og := fun e => (e.r.b).b.c
noncomputable def g75 : Og := fun e => (e.r.b).b.d
noncomputable def g76 : Og := fun e => (e.r.b).b.e
noncomputable def g77 : Og := fun e => (e.r.b).b.f
noncomputable def g78 : Og := fun e => (e.r.b).b.g
noncomputable def g79 : Og := fun e => (e.r.b).b.h
noncomputable def g80 : Og := fun e => (e.r.b).c.a
noncomputable def g81 : Og := fun e => (e.r.b).c.b
noncomputable def g82 : Og := fun e => (e.r.b).c.c
noncomputable def g83 : Og := fun e => (e.r.b).c.d
noncomputable def g84 : Og := fun e => (e.r.b).c.e
noncomputable def g85 : Og := fun e => (e.r.b).c.f
noncomputable def g86 : Og := fun e => (e.r.b).c.g
noncomputable def g87 : Og := fun e => (e.r.b).c.h
noncomputable def g88 : Og := fun e => (e.r.b).d.a
noncomputable def g89 : Og := fun e => (e.r.b).d.b
noncomputable def g90 : Og := fun e => (e.r.b).d.c
noncomputable def g91 : Og := fun e => (e.r.b).d.d
noncomputable def g92 : Og := fun e => (e.r.b).d.e
noncomputable def g93 : Og := fun e => (e.r.b).d.f
noncomputable def g94 : Og := fun e => (e.r.b).d.g
noncomputable def g95 : Og := fun e => (e.r.b).d.h
noncomputable def g96 : Og := fun e => (e.r.b).e.a
noncomputable def g97 : Og := fun e => (e.r.b).e.b
noncomputable def g98 : Og := fun e => (e.r.b).e.c
noncomputable def g99 : Og := fun e => (e.r.b).e.d
noncomputable def g100 : Og := fun e => (e.r.b).e.e
noncomputable def g101 : Og := fun e => (e.r.b).e.f
noncomputable def g102 : Og := fun e => (e.r.b).e.g
noncomputable def g103 : Og := fun e => (e.r.b).e.h
noncomputable def g104 : Og := fun e => (e.r.b).f.a
noncomputable def g105 : Og := fun e => (e.r.b).f.b
noncomputable def g106 : Og := fun e => (e.r.b).f.c
noncomputable def g107 : Og := fun e => (e.r.b).f.d
noncomputable def g108 : Og := fun e => (e.r.b).f.e
noncomputable def g109 : Og := fun e => (e.r.b).f.f
noncomputable def g110 : Og := fun e => (e.r.b).f.g
noncomputable def g111 : Og := fun e => (e.r.b).f.h
noncomputable def g112 : Og := fun e => (e.r.b).g.a
noncomputable def g113 : Og := fun e => (e.r.b).g.b
noncomputable def g114 : Og := fun e => (e.r.b).g.c
noncomputable def g115 : Og := fun e => (e.r.b).g.d
noncomputable def g116 : Og := fun e => (e.r.b).g.e
noncomputable def g117 : Og := fun e => (e.r.b).g.f
noncomputable def g118 : Og := fun e => (e.r.b).g.g
noncomputable def g119 : Og := fun e => (e.r.b).g.h
noncomputable def g120 : Og := fun e => (e.r.b).h.a
noncomputable def g121 : Og := fun e => (e.r.b).h.b
noncomputable def g122 : Og := fun e => (e.r.b).h.c
noncomputable def g123 : Og := fun e => (e.r.b).h.d
noncomputable def g124 : Og := fun e => (e.r.b).h.e
noncomputable def g125 : Og := fun e => (e.r.b).h.f
noncomputable def g126 : Og := fun e => (e.r.b).h.g
noncomputable def g127 : Og := fun e => (e.r.b).h.h
noncomputable def g128 : Og := fun e => (e.r.c).a.a
noncomputable def g129 : Og := fun e => (e.r.c).a.b
noncomputable def g130 : Og := fun e => (e.r.c).a.c
noncomputable def g131 : Og := fun e => (e.r.c).a.d
noncomputable def g132 : Og := fun e => (e.r.c).a.e
noncomputable def g133 : Og := fun e => (e.r.c).a.f
noncomputable def g134 : Og := fun e => (e.r.c).a.g
noncomputable def g135 : Og := fun e => (e.r.c).a.h
noncomputable def g136 : Og := fun e => (e.r.c).b.a
noncomputable def g137 : Og := fun e => (e.r.c).b.b
noncomputable def g138 : Og := fun e => (e.r.c).b.c
noncomputable def g139 : Og := fun e => (e.r.c).b.d
noncomputable def g140 : Og := fun e => (e.r.c).b.e
noncomputable def g141 : Og := fun e => (e.r.c).b.f
noncomputable def g142 : Og := fun e => (e.r.c).b.g
noncomputable def g143 : Og := fun e => (e.r.c).b.h
noncomputable def g144 : Og := fun e => (e.r.c).c.a
noncomputable def g145 : Og := fun e => (e.r.c).c.b
noncomputable def g146 : Og := fun e => (e.r.c).c.c
noncomputable def g147 : Og := fun e => (e.r.c).c.d
noncomputable def g148 : Og := fun e => (e.r.c).c.e
noncomputable def g149 : Og := fun e => (e.r.c).c.f
noncomputable def g150 : Og := fun e => (e.r.c).c.g
noncomputable def g151 : Og := fun e => (e.r.c).c.h
noncomputable def g152 : Og := fun e => (e.r.c).d.a
noncomputable def g153 : Og := fun e => (e.r.c).d.b
noncomputable def g154 : Og := fun e => (e.r.c).d.c
noncomputable def g155 : Og := fun e => (e.r.c).d.d
noncomputable def g156 : Og := fun e => (e.r.c).d.e
noncomputable def g157 : Og := fun e => (e.r.c).d.f
noncomputable def g158 : Og := fun e => (e.r.c).d.g
noncomputable def g159 : Og := fun e => (e.r.c).d.h
noncomputable def g160 : Og := fun e => (e.r.c).e.a
noncomputable def g161 : Og := fun e => (e.r.c).e.b
noncomputable def g162 : Og := fun e => (e.r.c).e.c
noncomputable def g163 : Og := fun e => (e.r.c).e.d
noncomputable def g164 : Og := fun e => (e.r.c).e.e
noncomputable def g165 : Og := fun e => (e.r.c).e.f
noncomputable def g166 : Og := fun e => (e.r.c).e.g
noncomputable def g167 : Og := fun e => (e.r.c).e.h
noncomputable def g168 : Og := fun e => (e.r.c).f.a
noncomputable def g169 : Og := fun e => (e.r.c).f.b
noncomputable def g170 : Og := fun e => (e.r.c).f.c
noncomputable def g171 : Og := fun e => (e.r.c).f.d
noncomputable def g172 : Og := fun e => (e.r.c).f.e
noncomputable def g173 : Og := fun e => (e.r.c).f.f
noncomputable def g174 : Og := fun e => (e.r.c).f.g
noncomputable def g175 : Og := fun e => (e.r.c).f.h
noncomputable def g176 : Og := fun e => (e.r.c).g.a
noncomputable def g177 : Og := fun e => (e.r.c).g.b
noncomputable def g178 : Og := fun e => (e.r.c).g.c
noncomputable def g179 : Og := fun e => (e.r.c).g.d
noncomputable def g180 : Og := fun e => (e.r.c).g.e
noncomputable def g181 : Og := fun e => (e.r.c).g.f
noncomputable def g182 : Og := fun e => (e.r.c).g.g
noncomputable def g183 : Og := fun e => (e.r.c).g.h
noncomputable def g184 : Og := fun e => (e.r.c).h.a
noncomputable def p0 : Pt := fun e v K => Env.rec (motive := fun _ => R) (fun a r => E2.rec (motive := fun _ => R) (fun a2 b2 c2 d2 e2 f2 g2 h2 => E1.rec (motive := fun _ => R) (fun a1 b1 c1 d1 e1 f1 g1 h1 => K ⟨⟨⟨v,b1,c1,d1,e1,f1,g1,h1⟩,b2,c2,d2,e2,f2,g2,h2⟩, r⟩) a2) a) e
noncomputable def p1 : Pt := fun e v K => Env.rec (motive := fun _ => R) (fun a r => E2.rec (motive := fun _ => R) (fun a2 b2 c2 d2 e2 f2 g2 h2 => E1.rec (motive := fun _ => R) (fun a1 b1 c1 d1 e1 f1 g1 h1 => K ⟨⟨⟨a1,v,c1,d1,e1,f1,g1,h1⟩,b2,c2,d2,e2,f2,g2,h2⟩, r⟩) a2) a) e
noncomputable def p2 : Pt := fun e v K => Env.rec (motive := fun _ => R) (fun a r => E2.rec (motive := fun _ => R) (fun a2 b2 c2 d2 e2 f2 g2 h2 => E1.rec (motive := fun _ => R) (fun a1 b1 c1 d1 e1 f1 g1 h1 => K ⟨⟨⟨a1,b1,v,d1,e1,f1,g1,h1⟩,b2,c2,d2,e2,f2,g2,h2⟩, r⟩) a2) a) e
noncomputable def p3 : Pt := fun e v K => Env.rec (motive := fun _ => R) (fun a r => E2.rec (motive := fun _ => R) (fun a2 b2 c2 d2 e2 f2 g2 h2 => E1.rec (motive := fun _ => R) (fun a1 b1 c1 d1 e1 f1 g1 h1 => K ⟨⟨⟨a1,b1,c1,v,e1,f1,g1,h1⟩,b2,c2,d2,e2,f2,g2,h2⟩, r⟩) a2) a) e
noncomputable def p4 : Pt := fun e v K => Env.rec (motive := fun _ => R) (fun a r => E2.rec (motive := fun _ => R) (fun a2 b2 c2 d2 e2 f2 g2 h2 => E1.rec (motive := fun _ => R) (fun a1 b1 c1 d1 e1 f1 g1 h1 => K ⟨⟨⟨a1,b1,c1,d1,v,f1,g1,h1⟩,b2,c2,d2,e2,f2,g2,h2⟩, r⟩) a2) a) e
noncomputable def p5 : Pt := fun e v K => Env.rec (motive := fun _ => R) (fun a r => E2.rec (motive := fun _ => R) (fun a2 b2 c2 d2 e2 f2 g2 h2 => E1.rec (motive := fun _ => R) (fun a1 b1 c1 d1 e1 f1 g1 h1 => K ⟨⟨⟨a1,b1,c1,d1,e1,v,g1,h1⟩,b2,c2,d2,e2,f2,g2,h2⟩, r⟩) a2) a) e
noncomputable def p6 : Pt := fun e v K => Env.rec (motive := fun _ => R) (fun a r => E2.rec (motive := fun _ => R) (fun a2 b2 c2 d2 e2 f2 g2 h2 => E1.rec (motive := fun _ => R) (fun a1 b1 c1 d1 e1 f1 g1 h1 => K ⟨⟨⟨a1,b1,c1,d1,e1,f1,v,h1⟩,b2,c2,d2,e2,f2,g2,h2⟩, r⟩) a2) a) e
noncomputable def p7 : Pt := fun e v K => Env.rec (motive := fun _ => R) (fun a r => E2.rec (motive := fun _ => R) (fun a2 b2 c2 d2 e2 f2 g2 h2 => E1.rec (motive := fun _ => R) (fun a1 b1 c1 d1 e1 f1 g1 h1 => K ⟨⟨⟨a1,b1,c1,d1,e1,f1,g1,v⟩,b2,c2,d2,e2,f2,g2,h2⟩, r⟩) a2) a) e
noncomputable def p8 : Pt := fun e v K => Env.rec (motive := fun _ => R) (fun a r => E2.rec (motive := fun _ => R) (fun a2 b2 c2 d2 e2 f2 g2 h2 => E1.rec (motive := fun _ => R) (fun a1 b1 c1 d1 e1 f1 g1 h1 => K ⟨⟨a2,⟨v,b1,c1,d1,e1,f1,g1,h1⟩,c2,d2,e2,f2,g2,h2⟩, r⟩) b2) a) e
noncomputable def p9 : Pt := fun e v K => Env.rec (motive := fun _ => R) (fun a r => E2.rec (motive := fun _ => R) (fun a2 b2 c2 d2 e2 f2 g2 h2 => E1.rec (motive := fun _ => R) (fun a1 b1 c1 d1 e1 f1 g1 h1 => K ⟨⟨a2,⟨a1,v,c1,d1,e1,f1,g1,h1⟩,c2,d2,e2,f2,g2,h2⟩, r⟩) b2) a) e
noncomputable def p10 : Pt := fun e v K => Env.rec (motive := fun _ => R) (fun a r => E2.rec (motive := fun _ => R) (fun a2 b2 c2 d2 e2 f2 g2 h2 => E1.rec (motive := fun _ => R) (fun a1 b1 c1 d1 e1 f1 g1 h1 => K ⟨⟨a2,⟨a1,b1,v,d1,e1,f1,g1,h1⟩,c2,d2,e2,f2,g2,h2⟩, r⟩) b2) a) e
noncomputable def p11 : Pt := fun e v K => Env.rec (motive := fun _ => R) (fun a r => E2.rec (motive := fun _ => R) (fun a2 b2 c2 d2 e2 f2 g2 h2 => E1.rec (motive := fun _ => R) (fun a1 b1 c1 d1 e1 f1 g1 h1 => K ⟨⟨a2,⟨a1,b1,c1,v,e1,f1,g1,h1⟩,c2,d2,e2,f2,g2,h2⟩, r⟩) b2) a) e
noncomputable def p12 : Pt := fun e v K => Env.rec (motive := fun _ => R) (fun a r => E2.rec (motive := fun _ => R) (fun a2 b2 c2 d2 e2 f2 g2 h2 => E1.rec (motive := fun _ => R) (fun a1 b1 c1 d1 e1 f1 g1 h1 => K ⟨⟨a2,⟨a1,b1,c1,d1,v,f1,g1,h1⟩,c2,d2,e2,f2,g2,h2⟩, r⟩) b2) a) e
noncomputable def p13 : Pt := fun e v K => Env.rec (motive := fun _ => R) (fun a r => E2.rec (motive := fun _ => R) (fun a2 b2 c2 d2 e2 f2 g2 h2 => E1.rec (motive := fun _ => R) (fun a1 b1 c1 d1 e1 f1 g1 h1 => K ⟨⟨a2,⟨a1,b1,c1,d1,e1,v,g1,h1⟩,c2,d2,e2,f2,g2,h2⟩, r⟩) b2) a) e
noncomputable def p14 : Pt := fun e v K => Env.rec (motive := fun _ => R) (fun a r => E2.rec (motive := fun _ => R) (fun a2 b2 c2 d2 e2 f2 g2 h2 => E1.rec (motive := fun _ => R) (fun a1 b1 c1 d1 e1 f1 g1 h1 => K ⟨⟨a2,⟨a1,b1,c1,d1,e1,f1,v,h1⟩,c2,d2,e2,f2,g2,h2⟩, r⟩) b2) a) e
noncomputable def p15 : Pt := fun e v K => Env.rec (motive := fun _ => R) (fun a r => E2.rec (motive := fun _ => R) (fun a2 b2 c2 d2 e2 f2 g2 h2 => E1.rec (motive := fun _ => R) (fun a1 b1 c1 d1 e1 f1 g1 h1 => K ⟨⟨a2,⟨a1,b1,c1,d1,e1,f1,g1,v⟩,c2,d2,e2,f2,g2,h2⟩, r⟩) b2) a) e
noncomputable def p16 : Pt := fun e v K => Env.rec (motive := fun _ => R) (fun a r => E2.rec (motive := fun _ => R) (fun a2 b2 c2 d2 e2 f2 g2 h2 => E1.rec (motive := fun _ => R) (fun a1 b1 c1 d1 e1 f1 g1 h1 => K ⟨⟨a2,b2,⟨v,b1,c1,d1,e1,f1,g1,h1⟩,d2,e2,f2,g2,h2⟩, r⟩) c2) a) e
noncomputable def p17 : Pt := fun e v K => Env.rec (motive := fun _ => R) (fun a r => E2.rec (motive := fun _ => R) (fun a2 b2 c2 d2 e2 f2 g2 h2 => E1.rec (motive := fun _ => R) (fun a1 b1 c1 d1 e1 f1 g1 h1 => K ⟨⟨a2,b2,⟨a1,v,c1,d1,e1,f1,g1,h1⟩,d2,e2,f2,g2,h2⟩, r⟩) c2) a) e
noncomputable def p18 : Pt := fun e v K => Env.rec (motive := fun _ => R) (fun a r => E2.rec (motive := fun _ => R) (fun a2 b2 c2 d2 e2 f2 g2 h2 => E1.rec (motive := fun _ => R) (fun a1 b1 c1 d1 e1 f1 g1 h1 => K ⟨⟨a2,b2,⟨a1,b1,v,d1,e1,f1,g1,h1⟩,d2,e2,f2,g2,h2⟩, r⟩) c2) a) e
noncomputable def p19 : Pt := fun e v K => Env.rec (motive := fun _ => R) (fun a r => E2.rec (motive := fun _ => R) (fun a2 b2 c2 d2 e2 f2 g2 h2 => E1.rec (motive := fun _ => R) (fun a1 b1 c1 d1 e1 f1 g1 h1 => K ⟨⟨a2,b2,⟨a1,b1,c1,v,e1,f1,g1,h1⟩,d2,e2,f2,g2,h2⟩, r⟩) c2) a) e
noncomputable def p20 : Pt := fun e v K => Env.rec (motive := fun _ => R) (fun a r => E2.rec (motive := fun _ => R) (fun a2 b2 c2 d2 e2 f2 g2 h2 => E1.rec (motive := fun _ => R) (fun a1 b1 c1 d1 e1 f1 g1 h1 => K ⟨⟨a2,b2,⟨a1,b1,c1,d1,v,f1,g1,h1⟩,d2,e2,f2,g2,h2⟩, r⟩) c2) a) e
noncomputable def p21 : Pt := fun e v K => Env.rec (motive := fun _ => R) (fun a r => E2.rec (motive := fun _ => R) (fun a2 b2 c2 d2 e2 f2 g2 h2 => E1.rec (motive := fun _ => R) (fun a1 b1 c1 d1 e1 f1 g1 h1 => K ⟨⟨a2,b2,⟨a1,b1,c1,d1,e1,v,g1,h1⟩,d2,e2,f2,g2,h2⟩, r⟩) c2) a) e
noncomputable def p22 : Pt := fun e v K => Env.rec (motive := fun _ => R) (fun a r => E2.rec (motive := fun _ => R) (fun a2 b2 c2 d2 e2 f2 g2 h2 => E1.rec (motive := fun _ => R) (fun a1 b1 c1 d1 e1 f1 g1 h1 => K ⟨⟨a2,b2,⟨a1,b1,c1,d1,e1,f1,v,h1⟩,d2,e2,f2,g2,h2⟩, r⟩) c2) a) e
noncomputable def p23 : Pt := fun e v K => Env.rec (motive := fun _ => R) (fun a r => E2.rec (motive := fun _ => R) (fun a2 b2 c2 d2 e2 f2 g2 h2 => E1.rec (motive := fun _ => R) (fun a1 b1 c1 d1 e1 f1 g1 h1 => K ⟨⟨a2,b2,⟨a1,b1,c1,d1,e1,f1,g1,v⟩,d2,e2,f2,g2,h2⟩, r⟩) c2) a) e
noncomputable def p24 : Pt := fun e v K => Env.rec (motive := fun _ => R) (fun a r => E2.rec (motive := fun _ => R) (fun a2 b2 c2 d2 e2 f2 g2 h2 => E1.rec (motive := fun _ => R) (fun a1 b1 c1 d1 e1 f1 g1 h1 => K ⟨⟨a2,b2,c2,⟨v,b1,c1,d1,e1,f1,g1,h1⟩,e2,f2,g2,h2⟩, r⟩) d2) a) e
noncomputable def p25 : Pt := fun e v K => Env.rec (motive := fun _ => R) (fun a r => E2.rec (motive := fun _ => R) (fun a2 b2 c2 d2 e2 f2 g2 h2 => E1.rec (motive := fun _ => R) (fun a1 b1 c1 d1 e1 f1 g1 h1 => K ⟨⟨a2,b2,c2,⟨a1,v,c1,d1,e1,f1,g1,h1⟩,e2,f2,g2,h2⟩, r⟩) d2) a) e
noncomputable def p26 : Pt := fun e v K => Env.rec (motive := fun _ => R) (fun a r => E2.rec (motive := fun _ => R) (fun a2 b2 c2 d2 e2 f2 g2 h2 => E1.rec (motive := fun _ => R) (fun a1 b1 c1 d1 e1 f1 g1 h1 => K ⟨⟨a2,b2,c2,⟨a1,b1,v,d1,e1,f1,g1,h1⟩,e2,f2,g2,h2⟩, r⟩) d2) a) e
noncomputable def p27 : Pt := fun e v K => Env.rec (motive := fun _ => R) (fun a r => E2.rec (motive := fun _ => R) (fun a2 b2 c2 d2 e2 f2 g2 h2 => E1.rec (motive := fun _ => R) (fun a1 b1 c1 d1 e1 f1 g1 h1 => K ⟨⟨a2,b2,c2,⟨a1,b1,c1,v,e1,f1,g1,h1⟩,e2,f2,g2,h2⟩, r⟩) d2) a) e
noncomputable def p28 : Pt := fun e v K => Env.rec (motive := fun _ => R) (fun a r => E2.rec (motive := fun _ => R) (fun a2 b2 c2 d2 e2 f2 g2 h2 => E1.rec (motive := fun _ => R) (fun a1 b1 c1 d1 e1 f1 g1 h1 => K ⟨⟨a2,b2,c2,⟨a1,b1,c1,d1,v,f1,g1,h1⟩,e2,f2,g2,h2⟩, r⟩) d2) a) e
noncomputable def p29 : Pt := fun e v K => Env.rec (motive := fun _ => R) (fun a r => E2.rec (motive := fun _ => R) (fun a2 b2 c2 d2 e2 f2 g2 h2 => E1.rec (motive := fun _ => R) (fun a1 b1 c1 d1 e1 f1 g1 h1 => K ⟨⟨a2,b2,c2,⟨a1,b1,c1,d1,e1,v,g1,h1⟩,e2,f2,g2,h2⟩, r⟩) d2) a) e
noncomputable def p30 : Pt := fun e v K => Env.rec (motive := fun _ => R) (fun a r => E2.rec (motive := fun _ => R) (fun a2 b2 c2 d2 e2 f2 g2 h2 => E1.rec (motive := fun _ => R) (fun a1 b1 c1 d1 e1 f1 g1 h1 => K ⟨⟨a2,b2,c2,⟨a1,b1,c1,d1,e1,f1,v,h1⟩,e2,f2,g2,h2⟩, r⟩) d2) a) e
noncomputable def p31 : Pt := fun e v K => Env.rec (motive := fun _ => R) (fun a r => E2.rec (motive := fun _ => R) (fun a2 b2 c2 d2 e2 f2 g2 h2 => E1.rec (motive := fun _ => R) (fun a1 b1 c1 d1 e1 f1 g1 h1 => K ⟨⟨a2,b2,c2,⟨a1,b1,c1,d1,e1,f1,g1,v⟩,e2,f2,g2,h2⟩, r⟩) d2) a) e
noncomputable def p32 : Pt := fun e v K => Env.rec (motive := fun _ => R) (fun a r => E2.rec (motive := fun _ => R) (fun a2 b2 c2 d2 e2 f2 g2 h2 => E1.rec (motive := fun _ => R) (fun a1 b1 c1 d1 e1 f1 g1 h1 => K ⟨⟨a2,b2,c2,d2,⟨v,b1,c1,d1,e1,f1,g1,h1⟩,f2,g2,h2⟩, r⟩) e2) a) e
noncomputable def p33 : Pt := fun e v K => Env.rec (motive := fun _ => R) (fun a r => E2.rec (motive := fun _ => R) (fun a2 b2 c2 d2 e2 f2 g2 h2 => E1.rec (motive := fun _ => R) (fun a1 b1 c1 d1 e1 f1 g1 h1 => K ⟨⟨a2,b2,c2,d2,⟨a1,v,c1,d1,e1,f1,g1,h1⟩,f2,g2,h2⟩, r⟩) e2) a) e
noncomputable def p34 : Pt := fun e v K => Env.rec (motive := fun _ => R) (fun a r => E2.rec (motive := fun _ => R) (fun a2 b2 c2 d2 e2 f2 g2 h2 => E1.rec (motive := fun _ => R) (fun a1 b1 c1 d1 e1 f1 g1 h1 => K ⟨⟨a2,b2,c2,d2,⟨a1,b1,v,d1,e1,f1,g1,h1⟩,f2,g2,h2⟩, r⟩) e2) a) e
noncomputable def p35 : Pt := fun e v K => Env.rec (motive := fun _ => R) (fun a r => E2.rec (motive := fun _ => R) (fun a2 b2 c2 d2 e2 f2 g2 h2 => E1.rec (motive := fun _ => R) (fun a1 b1 c1 d1 e1 f1 g1 h1 => K ⟨⟨a2,b2,c2,d2,⟨a1,b1,c1,v,e1,f1,g1,h1⟩,f2,g2,h2⟩, r⟩) e2) a) e
noncomputable def p36 : Pt := fun e v K => Env.rec (motive := fun _ => R) (fun a r => E2.rec (motive := fun _ => R) (fun a2 b2 c2 d2 e2 f2 g2 h2 => E1.rec (motive := fun _ => R) (fun a1 b1 c1 d1 e1 f1 g1 h1 => K ⟨⟨a2,b2,c2,d2,⟨a1,b1,c1,d1,v,f1,g1,h1⟩,f2,g2,h2⟩, r⟩) e2) a) e
noncomputable def p37 : Pt := fun e v K => Env.rec (motive := fun _ => R) (fun a r => E2.rec (motive := fun _ => R) (fun a2 b2 c2 d2 e2 f2 g2 h2 => E1.rec (motive := fun _ => R) (fun a1 b1 c1 d1 e1 f1 g1 h1 => K ⟨⟨a2,b2,c2,d2,⟨a1,b1,c1,d1,e1,v,g1,h1⟩,f2,g2,h2⟩, r⟩) e2) a) e
noncomputable def p38 : Pt := fun e v K => Env.rec (motive := fun _ => R) (fun a r => E2.rec (motive := fun _ => R) (fun a2 b2 c2 d2 e2 f2 g2 h2 => E1.rec (motive := fun _ => R) (fun a1 b1 c1 d1 e1 f1 g1 h1 => K ⟨⟨a2,b2,c2,d2,⟨a1,b1,c1,d1,e1,f1,v,h1⟩,f2,g2,h2⟩, r⟩) e2) a) e
noncomputable def p39 : Pt := fun e v K => Env.rec (motive := fun _ => R) (fun a r => E2.rec (motive := fun _ => R) (fun a2 b2 c2 d2 e2 f2 g2 h2 => E1.rec (motive := fun _ => R) (fun a1 b1 c1 d1 e1 f1 g1 h1 => K ⟨⟨a2,b2,c2,d2,⟨a1,b1,c1,d1,e1,f1,g1,v⟩,f2,g2,h2⟩, r⟩) e2) a) e
noncomputable def p40 : Pt := fun e v K => Env.rec (motive := fun _ => R) (fun a r => E2.rec (motive := fun _ => R) (fun a2 b2 c2 d2 e2 f2 g2 h2 => E1.rec (motive := fun _ => R) (fun a1 b1 c1 d1 e1 f1 g1 h1 => K ⟨⟨a2,b2,c2,d2,e2,⟨v,b1,c1,d1,e1,f1,g1,h1⟩,g2,h2⟩, r⟩) f2) a) e
noncomputable def p41 : Pt := fun e v K => Env.rec (motive := fun _ => R) (fun a r => E2.rec (motive := fun _ => R) (fun a2 b2 c2 d2 e2 f2 g2 h2 => E1.rec (motive := fun _ => R) (fun a1 b1 c1 d1 e1 f1 g1 h1 => K ⟨⟨a2,b2,c2,d2,e2,⟨a1,v,c1,d1,e1,f1,g1,h1⟩,g2,h2⟩, r⟩) f2) a) e
noncomputable def p42 : Pt := fun e v K => Env.rec (motive := fun _ => R) (fun a r => E2.rec (motive := fun _ => R) (fun a2 b2 c2 d2 e2 f2 g2 h2 => E1.rec (motive := fun _ => R) (fun a1 b1 c1 d1 e1 f1 g1 h1 => K ⟨⟨a2,b2,c2,d2,e2,⟨a1,b1,v,d1,e1,f1,g1,h1⟩,g2,h2⟩, r⟩) f2) a) e
noncomputable def p43 : Pt := fun e v K => Env.rec (motive := fun _ => R) (fun a r => E2.rec (motive := fun _ => R) (fun a2 b2 c2 d2 e2 f2 g2 h2 => E1.rec (motive := fun _ => R) (fun a1 b1 c1 d1 e1 f1 g1 h1 => K ⟨⟨a2,b2,c2,d2,e2,⟨a1,b1,c1,v,e1,f1,g1,h1⟩,g2,h2⟩, r⟩) f2) a) e
noncomputable def p44 : Pt := fun e v K => Env.rec (motive := fun _ => R) (fun a r => E2.rec (motive := fun _ => R) (fun a2 b2 c2 d2 e2 f2 g2 h2 => E1.rec (motive := fun _ => R) (fun a1 b1 c1 d1 e1 f1 g1 h1 => K ⟨⟨a2,b2,c2,d2,e2,⟨a1,b1,c1,d1,v,f1,g1,h1⟩,g2,h2⟩, r⟩) f2) a) e
noncomputable def p45 : Pt := fun e v K => Env.rec (motive := fun _ => R) (fun a r => E2.rec (motive := fun _ => R) (fun a2 b2 c2 d2 e2 f2 g2 h2 => E1.rec (motive := fun _ => R) (fun a1 b1 c1 d1 e1 f1 g1 h1 => K ⟨⟨a2,b2,c2,d2,e2,⟨a1,b1,c1,d1,e1,v,g1,h1⟩,g2,h2⟩, r⟩) f2) a) e
noncomputable def p46 : Pt := fun e v K => Env.rec (motive := fun _ => R) (fun a r => E2.rec (motive := fun _ => R) (fun a2 b2 c2 d2 e2 f2 g2 h2 => E1.rec (motive := fun _ => R) (fun a1 b1 c1 d1 e1 f1 g1 h1 => K ⟨⟨a2,b2,c2,d2,e2,⟨a1,b1,c1,d1,e1,f1,v,h1⟩,g2,h2⟩, r⟩) f2) a) e
noncomputable def p47 : Pt := fun e v K => Env.rec (motive := fun _ => R) (fun a r => E2.rec (motive := fun _ => R) (fun a2 b2 c2 d2 e2 f2 g2 h2 => E1.rec (motive := fun _ => R) (fun a1 b1 c1 d1 e1 f1 g1 h1 => K ⟨⟨a2,b2,c2,d2,e2,⟨a1,b1,c1,d1,e1,f1,g1,v⟩,g2,h2⟩, r⟩) f2) a) e
noncomputable def p48 : Pt := fun e v K => Env.rec (motive := fun _ => R) (fun a r => E2.rec (motive := fun _ => R) (fun a2 b2 c2 d2 e2 f2 g2 h2 => E1.rec (motive := fun _ => R) (fun a1 b1 c1 d1 e1 f1 g1 h1 => K ⟨⟨a2,b2,c2,d2,e2,f2,⟨v,b1,c1,d1,e1,f1,g1,h1⟩,h2⟩, r⟩) g2) a) e
noncomputable def p49 : Pt := fun e v K => Env.rec (motive := fun _ => R) (fun a r => E2.rec (motive := fun _ => R) (fun a2 b2 c2 d2 e2 f2 g2 h2 => E1.rec (motive := fun _ => R) (fun a1 b1 c1 d1 e1 f1 g1 h1 => K ⟨⟨a2,b2,c2,d2,e2,f2,⟨a1,v,c1,d1,e1,f1,g1,h1⟩,h2⟩, r⟩) g2) a) e
noncomputable def p50 : Pt := fun e v K => Env.rec (motive := fun _ => R) (fun a r => E2.rec (motive := fun _ => R) (fun a2 b2 c2 d2 e2 f2 g2 h2 => E1.rec (motive := fun _ => R) (fun a1 b1 c1 d1 e1 f1 g1 h1 => K ⟨⟨a2,b2,c2,d2,e2,f2,⟨a1,b1,v,d1,e1,f1,g1,h1⟩,h2⟩, r⟩) g2) a) e
noncomputable def p51 : Pt := fun e v K => Env.rec (motive := fun _ => R) (fun a r => E2.rec (motive := fun _ => R) (fun a2 b2 c2 d2 e2 f2 g2 h2 => E1.rec (motive := fun _ => R) (fun a1 b1 c1 d1 e1 f1 g1 h1 => K ⟨⟨a2,b2,c2,d2,e2,f2,⟨a1,b1,c1,v,e1,f1,g1,h1⟩,h2⟩, r⟩) g2) a) e
noncomputable def p52 : Pt := fun e v K => Env.rec (motive := fun _ => R) (fun a r => E2.rec (motive := fun _ => R) (fun a2 b2 c2 d2 e2 f2 g2 h2 => E1.rec (motive := fun _ => R) (fun a1 b1 c1 d1 e1 f1 g1 h1 => K ⟨⟨a2,b2,c2,d2,e2,f2,⟨a1,b1,c1,d1,v,f1,g1,h1⟩,h2⟩, r⟩) g2) a) e
noncomputable def p53 : Pt := fun e v K => Env.rec (motive := fun _ => R) (fun a r => E2.rec (motive := fun _ => R) (fun a2 b2 c2 d2 e2 f2 g2 h2 => E1.rec (motive := fun _ => R) (fun a1 b1 c1 d1 e1 f1 g1 h1 => K ⟨⟨a2,b2,c2,d2,e2,f2,⟨a1,b1,c1,d1,e1,v,g1,h1⟩,h2⟩, r⟩) g2) a) e
noncomputable def p54 : Pt := fun e v K => Env.rec (motive := fun _ => R) (fun a r => E2.rec (motive := fun _ => R) (fun a2 b2 c2 d2 e2 f2 g2 h2 => E1.rec (motive := fun _ => R) (fun a1 b1 c1 d1 e1 f1 g1 h1 => K ⟨⟨a2,b2,c2,d2,e2,f2,⟨a1,b1,c1,d1,e1,f1,v,h1⟩,h2⟩, r⟩) g2) a) e
noncomputable def p55 : Pt := fun e v K => Env.rec (motive := fun _ => R) (fun a r => E2.rec (motive := fun _ => R) (fun a2 b2 c2 d2 e2 f2 g2 h2 => E1.rec (motive := fun _ => R) (fun a1 b1 c1 d1 e1 f1 g1 h1 => K ⟨⟨a2,b2,c2,d2,e2,f2,⟨a1,b1,c1,d1,e1,f1,g1,v⟩,h2⟩, r⟩) g2) a) e
noncomputable def p56 : Pt := fun e v K => Env.rec (motive := fun _ => R) (fun a r => E2.rec (motive := fun _ => R) (fun a2 b2 c2 d2 e2 f2 g2 h2 => E1.rec (motive := fun _ => R) (fun a1 b1 c1 d1 e1 f1 g1 h1 => K ⟨⟨a2,b2,c2,d2,e2,f2,g2,⟨v,b1,c1,d1,e1,f1,g1,h1⟩⟩, r⟩) h2) a) e
noncomputable def p57 : Pt := fun e v K => Env.rec (motive := fun _ => R) (fun a r => E2.rec (motive := fun _ => R) (fun a2 b2 c2 d2 e2 f2 g2 h2 => E1.rec (motive := fun _ => R) (fun a1 b1 c1 d1 e1 f1 g1 h1 => K ⟨⟨a2,b2,c2,d2,e2,f2,g2,⟨a1,v,c1,d1,e1,f1,g1,h1⟩⟩, r⟩) h2) a) e
noncomputable def p58 : Pt := fun e v K => Env.rec (motive := fun _ => R) (fun a r => E2.rec (motive := fun _ => R) (fun a2 b2 c2 d2 e2 f2 g2 h2 => E1.rec (motive := fun _ => R) (fun a1 b1 c1 d1 e1 f1 g1 h1 => K ⟨⟨a2,b2,c2,d2,e2,f2,g2,⟨a1,b1,v,d1,e1,f1,g1,h1⟩⟩, r⟩) h2) a) e
noncomputable def p59 : Pt := fun e v K => Env.rec (motive := fun _ => R) (fun a r => E2.rec (motive := fun _ => R) (fun a2 b2 c2 d2 e2 f2 g2 h2 => E1.rec (motive := fun _ => R) (fun a1 b1 c1 d1 e1 f1 g1 h1 => K ⟨⟨a2,b2,c2,d2,e2,f2,g2,⟨a1,b1,c1,v,e1,f1,g1,h1⟩⟩, r⟩) h2) a) e
noncomputable def p60 : Pt := fun e v K => Env.rec (motive := fun _ => R) (fun a r => E2.rec (motive := fun _ => R) (fun a2 b2 c2 d2 e2 f2 g2 h2 => E1.rec (motive := fun _ => R) (fun a1 b1 c1 d1 e1 f1 g1 h1 => K ⟨⟨a2,b2,c2,d2,e2,f2,g2,⟨a1,b1,c1,d1,v,f1,g1,h1⟩⟩, r⟩) h2) a) e
noncomputable def p61 : Pt := fun e v K => Env.rec (motive := fun _ => R) (fun a r => E2.rec (motive := fun _ => R) (fun a2 b2 c2 d2 e2 f2 g2 h2 => E1.rec (motive := fun _ => R) (fun a1 b1 c1 d1 e1 f1 g1 h1 => K ⟨⟨a2,b2,c2,d2,e2,f2,g2,⟨a1,b1,c1,d1,e1,v,g1,h1⟩⟩, r⟩) h2) a) e
noncomputable def p62 : Pt := fun e v K => Env.rec (motive := fun _ => R) (fun a r => E2.rec (motive := fun _ => R) (fun a2 b2 c2 d2 e2 f2 g2 h2 => E1.rec (motive := fun _ => R) (fun a1 b1 c1 d1 e1 f1 g1 h1 => K ⟨⟨a2,b2,c2,d2,e2,f2,g2,⟨a1,b1,c1,d1,e1,f1,v,h1⟩⟩, r⟩) h2) a) e
noncomputable def p63 : Pt := fun e v K => Env.rec (motive := fun _ => R) (fun a r => E2.rec (motive := fun _ => R) (fun a2 b2 c2 d2 e2 f2 g2 h2 => E1.rec (motive := fun _ => R) (fun a1 b1 c1 d1 e1 f1 g1 h1 => K ⟨⟨a2,b2,c2,d2,e2,f2,g2,⟨a1,b1,c1,d1,e1,f1,g1,v⟩⟩, r⟩) h2) a) e
noncomputable def p64 : Pt := fun e v K => Env.rec (motive := fun _ => R) (fun a r => EnvR.rec (motive := fun _ => R) (fun b3 c3 d3 e3 f3 g3 h3 => E2.rec (motive := fun _ => R) (fun a2 b2 c2 d2 e2 f2 g2 h2 => E1.rec (motive := fun _ => R) (fun a1 b1 c1 d1 e1 f1 g1 h1 => K ⟨a, ⟨⟨⟨v,b1,c1,d1,e1,f1,g1,h1⟩,b2,c2,d2,e2,f2,g2,h2⟩,c3,d3,e3,f3,g3,h3⟩⟩) a2) b3) r) e
noncomputable def p65 : Pt := fun e v K => Env.rec (motive := fun _ => R) (fun a r => EnvR.rec (motive := fun _ => R) (fun b3 c3 d3 e3 f3 g3 h3 => E2.rec (motive := fun _ => R) (fun a2 b2 c2 d2 e2 f2 g2 h2 => E1.rec (motive := fun _ => R) (fun a1 b1 c1 d1 e1 f1 g1 h1 => K ⟨a, ⟨⟨⟨a1,v,c1,d1,e1,f1,g1,h1⟩,b2,c2,d2,e2,f2,g2,h2⟩,c3,d3,e3,f3,g3,h3⟩⟩) a2) b3) r) e
noncomputable def p66 : Pt := fun e v K => Env.rec (motive := fun _ => R) (fun a r => EnvR.rec (motive := fun _ => R) (fun b3 c3 d3 e3 f3 g3 h3 => E2.rec (motive := fun _ => R) (fun a2 b2 c2 d2 e2 f2 g2 h2 => E1.rec (motive := fun _ => R) (fun a1 b1 c1 d1 e1 f1 g1 h1 => K ⟨a, ⟨⟨⟨a1,b1,v,d1,e1,f1,g1,h1⟩,b2,c2,d2,e2,f2,g2,h2⟩,c3,d3,e3,f3,g3,h3⟩⟩) a2) b3) r) e
noncomputable def p67 : Pt := fun e v K => Env.rec (motive := fun _ => R) (fun a r => EnvR.rec (motive := fun _ => R) (fun b3 c3 d3 e3 f3 g3 h3 => E2.rec (motive := fun _ => R) (fun a2 b2 c2 d2 e2 f2 g2 h2 => E1.rec (motive := fun _ => R) (fun a1 b1 c1 d1 e1 f1 g1 h1 => K ⟨a, ⟨⟨⟨a1,b1,c1,v,e1,f1,g1,h1⟩,b2,c2,d2,e2,f2,g2,h2⟩,c3,d3,e3,f3,g3,h3⟩⟩) a2) b3) r) e
noncomputable def p68 : Pt := fun e v K => Env.rec (motive := fun _ => R) (fun a r => EnvR.rec (motive := fun _ => R) (fun b3 c3 d3 e3 f3 g3 h3 => E2.rec (motive := fun _ => R) (fun a2 b2 c2 d2 e2 f2 g2 h2 => E1.rec (motive := fun _ => R) (fun a1 b1 c1 d1 e1 f1 g1 h1 => K ⟨a, ⟨⟨⟨a1,b1,c1,d1,v,f1,g1,h1⟩,b2,c2,d2,e2,f2,g2,h2⟩,c3,d3,e3,f3,g3,h3⟩⟩) a2) b3) r) e
noncomputable def p69 : Pt := fun e v K => Env.rec (motive := fun _ => R) (fun a r => EnvR.rec (motive := fun _ => R) (fun b3 c3 d3 e3 f3 g3 h3 => E2.rec (motive := fun _ => R) (fun a2 b2 c2 d2 e2 f2 g2 h2 => E1.rec (motive := fun _ => R) (fun a1 b1 c1 d1 e1 f1 g1 h1 => K ⟨a, ⟨⟨⟨a1,b1,c1,d1,e1,v,g1,h1⟩,b2,c2,d2,e2,f2,g2,h2⟩,c3,d3,e3,f3,g3,h3⟩⟩) a2) b3) r) e
noncomputable def p70 : Pt := fun e v K => Env.rec (motive := fun _ => R) (fun a r => EnvR.rec (motive := fun _ => R) (fun b3 c3 d3 e3 f3 g3 h3 => E2.rec (motive := fun _ => R) (fun a2 b2 c2 d2 e2 f2 g2 h2 => E1.rec (motive := fun _ => R) (fun a1 b1 c1 d1 e1 f1 g1 h1 => K ⟨a, ⟨⟨⟨a1,b1,c1,d1,e1,f1,v,h1⟩,b2,c2,d2,e2,f2,g2,h2⟩,c3,d3,e3,f3,g3,h3⟩⟩) a2) b3) r) e
noncomputable def p71 : Pt := fun e v K => Env.rec (motive := fun _ => R) (fun a r => EnvR.rec (motive := fun _ => R) (fun b3 c3 d3 e3 f3 g3 h3 => E2.rec (motive := fun _ => R) (fun a2 b2 c2 d2 e2 f2 g2 h2 => E1.rec (motive := fun _ => R) (fun a1 b1 c1 d1 e1 f1 g1 h1 => K ⟨a, ⟨⟨⟨a1,b1,c1,d1,e1,f1,g1,v⟩,b2,c2,d2,e2,f2,g2,h2⟩,c3,d3,e3,f3,g3,h3⟩⟩) a2) b3) r) e
noncomputable def p72 : Pt := fun e v K => Env.rec (motive := fun _ => R) (fun a r => EnvR.rec (motive := fun _ => R) (fun b3 c3 d3 e3 f3 g3 h3 => E2.rec (motive := fun _ => R) (fun a2 b2 c2 d2 e2 f2 g2 h2 => E1.rec (motive := fun _ => R) (fun a1 b1 c1 d1 e1 f1 g1 h1 => K ⟨a, ⟨⟨a2,⟨v,b1,c1,d1,e1,f1,g1,h1⟩,c2,d2,e2,f2,g2,h2⟩,c3,d3,e3,f3,g3,h3⟩⟩) b2) b3) r) e
noncomputable def p73 : Pt := fun e v K => Env.rec (motive := fun _ => R) (fun a r => EnvR.rec (motive := fun _ => R) (fun b3 c3 d3 e3 f3 g3 h3 => E2.rec (motive := fun _ => R) (fun a2 b2 c2 d2 e2 f2 g2 h2 => E1.rec (motive := fun _ => R) (fun a1 b1 c1 d1 e1 f1 g1 h1 => K ⟨a, ⟨⟨a2,⟨a1,v,c1,d1,e1,f1,g1,h1⟩,c2,d2,e2,f2,g2,h2⟩,c3,d3,e3,f3,g3,h3⟩⟩) b2) b3) r) e
noncomputable def p74 : Pt := fun e v K => Env.rec (motive := fun _ => R) (fun a r => EnvR.rec (motive := fun _ => R) (fun b3 c3 d3 e3 f3 g3 h3 => E2.rec (motive := fun _ => R) (fun a2 b2 c2 d2 e2 f2 g2 h2 => E1.rec (motive := fun _ => R) (fun a1 b1 c1 d1 e1 f1 g1 h1 => K ⟨a, ⟨⟨a2,⟨a1,b1,v,d1,e1,f1,g1,h1⟩,c2,d2,e2,f2,g2,h2⟩,c3,d3,e3,f3,g3,h3⟩⟩) b2) b3) r) e
noncomputable def p75 : Pt := fun e v K => Env.rec (motive := fun _ => R) (fun a r => EnvR.rec (motive := fun _ => R) (fun b3 c3 d3 e3 f3 g3 h3 => E2.rec (motive := fun _ => R) (fun a2 b2 c2 d2 e2 f2 g2 h2 => E1.rec (motive := fun _ => R) (fun a1 b1 c1 d1 e1 f1 g1 h1 => K ⟨a, ⟨⟨a2,⟨a1,b1,c1,v,e1,f1,g1,h1⟩,c2,d2,e2,f2,g2,h2⟩,c3,d3,e3,f3,g3,h3⟩⟩) b2) b3) r) e
noncomputable def p76 : Pt := fun e v K => Env.rec (motive := fun _ => R) (fun a r => EnvR.rec (motive := fun _ => R) (fun b3 c3 d3 e3 f3 g3 h3 => E2.rec (motive := fun _ => R) (fun a2 b2 c2 d2 e2 f2 g2 h2 => E1.rec (motive := fun _ => R) (fun a1 b1 c1 d1 e1 f1 g1 h1 => K ⟨a, ⟨⟨a2,⟨a1,b1,c1,d1,v,f1,g1,h1⟩,c2,d2,e2,f2,g2,h2⟩,c3,d3,e3,f3,g3,h3⟩⟩) b2) b3) r) e
noncomputable def p77 : Pt := fun e v K => Env.rec (motive := fun _ => R) (fun a r => EnvR.rec (motive := fun _ => R) (fun b3 c3 d3 e3 f3 g3 h3 => E2.rec (motive := fun _ => R) (fun a2 b2 c2 d2 e2 f2 g2 h2 => E1.rec (motive := fun _ => R) (fun a1 b1 c1 d1 e1 f1 g1 h1 => K ⟨a, ⟨⟨a2,⟨a1,b1,c1,d1,e1,v,g1,h1⟩,c2,d2,e2,f2,g2,h2⟩,c3,d3,e3,f3,g3,h3⟩⟩) b2) b3) r) e
noncomputable def p78 : Pt := fun e v K => Env.rec (motive := fun _ => R) (fun a r => EnvR.rec (motive := fun _ => R) (fun b3 c3 d3 e3 f3 g3 h3 => E2.rec (motive := fun _ => R) (fun a2 b2 c2 d2 e2 f2 g2 h2 => E1.rec (motive := fun _ => R) (fun a1 b1 c1 d1 e1 f1 g1 h1 => K ⟨a, ⟨⟨a2,⟨a1,b1,c1,d1,e1,f1,v,h1⟩,c2,d2,e2,f2,g2,h2⟩,c3,d3,e3,f3,g3,h3⟩⟩) b2) b3) r) e
noncomputable def p79 : Pt := fun e v K => Env.rec (motive := fun _ => R) (fun a r => EnvR.rec (motive := fun _ => R) (fun b3 c3 d3 e3 f3 g3 h3 => E2.rec (motive := fun _ => R) (fun a2 b2 c2 d2 e2 f2 g2 h2 => E1.rec (motive := fun _ => R) (fun a1 b1 c1 d1 e1 f1 g1 h1 => K ⟨a, ⟨⟨a2,⟨a1,b1,c1,d1,e1,f1,g1,v⟩,c2,d2,e2,f2,g2,h2⟩,c3,d3,e3,f3,g3,h3⟩⟩) b2) b3) r) e
noncomputable def p80 : Pt := fun e v K => Env.rec (motive := fun _ => R) (fun a r => EnvR.rec (motive := fun _ => R) (fun b3 c3 d3 e3 f3 g3 h3 => E2.rec (motive := fun _ => R) (fun a2 b2 c2 d2 e2 f2 g2 h2 => E1.rec (motive := fun _ => R) (fun a1 b1 c1 d1 e1 f1 g1 h1 => K ⟨a, ⟨⟨a2,b2,⟨v,b1,c1,d1,e1,f1,g1,h1⟩,d2,e2,f2,g2,h2⟩,c3,d3,e3,f3,g3,h3⟩⟩) c2) b3) r) e
noncomputable def p81 : Pt := fun e v K => Env.rec (motive := fun _ => R) (fun a r => EnvR.rec (motive := fun _ => R) (fun b3 c3 d3 e3 f3 g3 h3 => E2.rec (motive := fun _ => R) (fun a2 b2 c2 d2 e2 f2 g2 h2 => E1.rec (motive := fun _ => R) (fun a1 b1 c1 d1 e1 f1 g1 h1 => K ⟨a, ⟨⟨a2,b2,⟨a1,v,c1,d1,e1,f1,g1,h1⟩,d2,e2,f2,g2,h2⟩,c3,d3,e3,f3,g3,h3⟩⟩) c2) b3) r) e
noncomputable def p82 : Pt := fun e v K => Env.rec (motive := fun _ => R) (fun a r => EnvR.rec (motive := fun _ => R) (fun b3 c3 d3 e3 f3 g3 h3 => E2.rec (motive := fun _ => R) (fun a2 b2 c2 d2 e2 f2 g2 h2 => E1.rec (motive := fun _ => R) (fun a1 b1 c1 d1 e1 f1 g1 h1 => K ⟨a, ⟨⟨a2,b2,⟨a1,b1,v,d1,e1,f1,g1,h1⟩,d2,e2,f2,g2,h2⟩,c3,d3,e3,f3,g3,h3⟩⟩) c2) b3) r) e
noncomputable def p83 : Pt := fun e v K => Env.rec (motive := fun _ => R) (fun a r => EnvR.rec (motive := fun _ => R) (fun b3 c3 d3 e3 f3 g3 h3 => E2.rec (motive := fun _ => R) (fun a2 b2 c2 d2 e2 f2 g2 h2 => E1.rec (motive := fun _ => R) (fun a1 b1 c1 d1 e1 f1 g1 h1 => K ⟨a, ⟨⟨a2,b2,⟨a1,b1,c1,v,e1,f1,g1,h1⟩,d2,e2,f2,g2,h2⟩,c3,d3,e3,f3,g3,h3⟩⟩) c2) b3) r) e
noncomputable def p84 : Pt := fun e v K => Env.rec (motive := fun _ => R) (fun a r => EnvR.rec (motive := fun _ => R) (fun b3 c3 d3 e3 f3 g3 h3 => E2.rec (motive := fun _ => R) (fun a2 b2 c2 d2 e2 f2 g2 h2 => E1.rec (motive := fun _ => R) (fun a1 b1 c1 d1 e1 f1 g1 h1 => K ⟨a, ⟨⟨a2,b2,⟨a1,b1,c1,d1,v,f1,g1,h1⟩,d2,e2,f2,g2,h2⟩,c3,d3,e3,f3,g3,h3⟩⟩) c2) b3) r) e
noncomputable def p85 : Pt := fun e v K => Env.rec (motive := fun _ => R) (fun a r => EnvR.rec (motive := fun _ => R) (fun b3 c3 d3 e3 f3 g3 h3 => E2.rec (motive := fun _ => R) (fun a2 b2 c2 d2 e2 f2 g2 h2 => E1.rec (motive := fun _ => R) (fun a1 b1 c1 d1 e1 f1 g1 h1 => K ⟨a, ⟨⟨a2,b2,⟨a1,b1,c1,d1,e1,v,g1,h1⟩,d2,e2,f2,g2,h2⟩,c3,d3,e3,f3,g3,h3⟩⟩) c2) b3) r) e
noncomputable def p86 : Pt := fun e v K => Env.rec (motive := fun _ => R) (fun a r => EnvR.rec (motive := fun _ => R) (fun b3 c3 d3 e3 f3 g3 h3 => E2.rec (motive := fun _ => R) (fun a2 b2 c2 d2 e2 f2 g2 h2 => E1.rec (motive := fun _ => R) (fun a1 b1 c1 d1 e1 f1 g1 h1 => K ⟨a, ⟨⟨a2,b2,⟨a1,b1,c1,d1,e1,f1,v,h1⟩,d2,e2,f2,g2,h2⟩,c3,d3,e3,f3,g3,h3⟩⟩) c2) b3) r) e
noncomputable def p87 : Pt := fun e v K => Env.rec (motive := fun _ => R) (fun a r => EnvR.rec (motive := fun _ => R) (fun b3 c3 d3 e3 f3 g3 h3 => E2.rec (motive := fun _ => R) (fun a2 b2 c2 d2 e2 f2 g2 h2 => E1.rec (motive := fun _ => R) (fun a1 b1 c1 d1 e1 f1 g1 h1 => K ⟨a, ⟨⟨a2,b2,⟨a1,b1,c1,d1,e1,f1,g1,v⟩,d2,e2,f2,g2,h2⟩,c3,d3,e3,f3,g3,h3⟩⟩) c2) b3) r) e
noncomputable def p88 : Pt := fun e v K => Env.rec (motive := fun _ => R) (fun a r => EnvR.rec (motive := fun _ => R) (fun b3 c3 d3 e3 f3 g3 h3 => E2.rec (motive := fun _ => R) (fun a2 b2 c2 d2 e2 f2 g2 h2 => E1.rec (motive := fun _ => R) (fun a1 b1 c1 d1 e1 f1 g1 h1 => K ⟨a, ⟨⟨a2,b2,c2,⟨v,b1,c1,d1,e1,f1,g1,h1⟩,e2,f2,g2,h2⟩,c3,d3,e3,f3,g3,h3⟩⟩) d2) b3) r) e
noncomputable def p89 : Pt := fun e v K => Env.rec (motive := fun _ => R) (fun a r => EnvR.rec (motive := fun _ => R) (fun b3 c3 d3 e3 f3 g3 h3 => E2.rec (motive := fun _ => R) (fun a2 b2 c2 d2 e2 f2 g2 h2 => E1.rec (motive := fun _ => R) (fun a1 b1 c1 d1 e1 f1 g1 h1 => K ⟨a, ⟨⟨a2,b2,c2,⟨a1,v,c1,d1,e1,f1,g1,h1⟩,e2,f2,g2,h2⟩,c3,d3,e3,f3,g3,h3⟩⟩) d2) b3) r) e
noncomputable def p90 : Pt := fun e v K => Env.rec (motive := fun _ => R) (fun a r => EnvR.rec (motive := fun _ => R) (fun b3 c3 d3 e3 f3 g3 h3 => E2.rec (motive := fun _ => R) (fun a2 b2 c2 d2 e2 f2 g2 h2 => E1.rec (motive := fun _ => R) (fun a1 b1 c1 d1 e1 f1 g1 h1 => K ⟨a, ⟨⟨a2,b2,c2,⟨a1,b1,v,d1,e1,f1,g1,h1⟩,e2,f2,g2,h2⟩,c3,d3,e3,f3,g3,h3⟩⟩) d2) b3) r) e
noncomputable def p91 : Pt := fun e v K => Env.rec (motive := fun _ => R) (fun a r => EnvR.rec (motive := fun _ => R) (fun b3 c3 d3 e3 f3 g3 h3 => E2.rec (motive := fun _ => R) (fun a2 b2 c2 d2 e2 f2 g2 h2 => E1.rec (motive := fun _ => R) (fun a1 b1 c1 d1 e1 f1 g1 h1 => K ⟨a, ⟨⟨a2,b2,c2,⟨a1,b1,c1,v,e1,f1,g1,h1⟩,e2,f2,g2,h2⟩,c3,d3,e3,f3,g3,h3⟩⟩) d2) b3) r) e
noncomputable def p92 : Pt := fun e v K => Env.rec (motive := fun _ => R) (fun a r => EnvR.rec (motive := fun _ => R) (fun b3 c3 d3 e3 f3 g3 h3 => E2.rec (motive := fun _ => R) (fun a2 b2 c2 d2 e2 f2 g2 h2 => E1.rec (motive := fun _ => R) (fun a1 b1 c1 d1 e1 f1 g1 h1 => K ⟨a, ⟨⟨a2,b2,c2,⟨a1,b1,c1,d1,v,f1,g1,h1⟩,e2,f2,g2,h2⟩,c3,d3,e3,f3,g3,h3⟩⟩) d2) b3) r) e
noncomputable def p93 : Pt := fun e v K => Env.rec (motive := fun _ => R) (fun a r => EnvR.rec (motive := fun _ => R) (fun b3 c3 d3 e3 f3 g3 h3 => E2.rec (motive := fun _ => R) (fun a2 b2 c2 d2 e2 f2 g2 h2 => E1.rec (motive := fun _ => R) (fun a1 b1 c1 d1 e1 f1 g1 h1 => K ⟨a, ⟨⟨a2,b2,c2,⟨a1,b1,c1,d1,e1,v,g1,h1⟩,e2,f2,g2,h2⟩,c3,d3,e3,f3,g3,h3⟩⟩) d2) b3) r) e
noncomputable def p94 : Pt := fun e v K => Env.rec (motive := fun _ => R) (fun a r => EnvR.rec (motive := fun _ => R) (fun b3 c3 d3 e3 f3 g3 h3 => E2.rec (motive := fun _ => R) (fun a2 b2 c2 d2 e2 f2 g2 h2 => E1.rec (motive := fun _ => R) (fun a1 b1 c1 d1 e1 f1 g1 h1 => K ⟨a, ⟨⟨a2,b2,c2,⟨a1,b1,c1,d1,e1,f1,v,h1⟩,e2,f2,g2,h2⟩,c3,d3,e3,f3,g3,h3⟩⟩) d2) b3) r) e
noncomputable def p95 : Pt := fun e v K => Env.rec (motive := fun _ => R) (fun a r => EnvR.rec (motive := fun _ => R) (fun b3 c3 d3 e3 f3 g3 h3 => E2.rec (motive := fun _ => R) (fun a2 b2 c2 d2 e2 f2 g2 h2 => E1.rec (motive := fun _ => R) (fun a1 b1 c1 d1 e1 f1 g1 h1 => K ⟨a, ⟨⟨a2,b2,c2,⟨a1,b1,c1,d1,e1,f1,g1,v⟩,e2,f2,g2,h2⟩,c3,d3,e3,f3,g3,h3⟩⟩) d2) b3) r) e
noncomputable def p96 : Pt := fun e v K => Env.rec (motive := fun _ => R) (fun a r => EnvR.rec (motive := fun _ => R) (fun b3 c3 d3 e3 f3 g3 h3 => E2.rec (motive := fun _ => R) (fun a2 b2 c2 d2 e2 f2 g2 h2 => E1.rec (motive := fun _ => R) (fun a1 b1 c1 d1 e1 f1 g1 h1 => K ⟨a, ⟨⟨a2,b2,c2,d2,⟨v,b1,c1,d1,e1,f1,g1,h1⟩,f2,g2,h2⟩,c3,d3,e3,f3,g3,h3⟩⟩) e2) b3) r) e
noncomputable def p97 : Pt := fun e v K => Env.rec (motive := fun _ => R) (fun a r => EnvR.rec (motive := fun _ => R) (fun b3 c3 d3 e3 f3 g3 h3 => E2.rec (motive := fun _ => R) (fun a2 b2 c2 d2 e2 f2 g2 h2 => E1.rec (motive := fun _ => R) (fun a1 b1 c1 d1 e1 f1 g1 h1 => K ⟨a, ⟨⟨a2,b2,c2,d2,⟨a1,v,c1,d1,e1,f1,g1,h1⟩,f2,g2,h2⟩,c3,d3,e3,f3,g3,h3⟩⟩) e2) b3) r) e
noncomputable def p98 : Pt := fun e v K => Env.rec (motive := fun _ => R) (fun a r => EnvR.rec (motive := fun _ => R) (fun b3 c3 d3 e3 f3 g3 h3 => E2.rec (motive := fun _ => R) (fun a2 b2 c2 d2 e2 f2 g2 h2 => E1.rec (motive := fun _ => R) (fun a1 b1 c1 d1 e1 f1 g1 h1 => K ⟨a, ⟨⟨a2,b2,c2,d2,⟨a1,b1,v,d1,e1,f1,g1,h1⟩,f2,g2,h2⟩,c3,d3,e3,f3,g3,h3⟩⟩) e2) b3) r) e
noncomputable def p99 : Pt := fun e v K => Env.rec (motive := fun _ => R) (fun a r => EnvR.rec (motive := fun _ => R) (fun b3 c3 d3 e3 f3 g3 h3 => E2.rec (motive := fun _ => R) (fun a2 b2 c2 d2 e2 f2 g2 h2 => E1.rec (motive := fun _ => R) (fun a1 b1 c1 d1 e1 f1 g1 h1 => K ⟨a, ⟨⟨a2,b2,c2,d2,⟨a1,b1,c1,v,e1,f1,g1,h1⟩,f2,g2,h2⟩,c3,d3,e3,f3,g3,h3⟩⟩) e2) b3) r) e
noncomputable def p100 : Pt := fun e v K => Env.rec (motive := fun _ => R) (fun a r => EnvR.rec (motive := fun _ => R) (fun b3 c3 d3 e3 f3 g3 h3 => E2.rec (motive := fun _ => R) (fun a2 b2 c2 d2 e2 f2 g2 h2 => E1.rec (motive := fun _ => R) (fun a1 b1 c1 d1 e1 f1 g1 h1 => K ⟨a, ⟨⟨a2,b2,c2,d2,⟨a1,b1,c1,d1,v,f1,g1,h1⟩,f2,g2,h2⟩,c3,d3,e3,f3,g3,h3⟩⟩) e2) b3) r) e
noncomputable def p101 : Pt := fun e v K => Env.rec (motive := fun _ => R) (fun a r => EnvR.rec (motive := fun _ => R) (fun b3 c3 d3 e3 f3 g3 h3 => E2.rec (motive := fun _ => R) (fun a2 b2 c2 d2 e2 f2 g2 h2 => E1.rec (motive := fun _ => R) (fun a1 b1 c1 d1 e1 f1 g1 h1 => K ⟨a, ⟨⟨a2,b2,c2,d2,⟨a1,b1,c1,d1,e1,v,g1,h1⟩,f2,g2,h2⟩,c3,d3,e3,f3,g3,h3⟩⟩) e2) b3) r) e
noncomputable def p102 : Pt := fun e v K => Env.rec (motive := fun _ => R) (fun a r => EnvR.rec (motive := fun _ => R) (fun b3 c3 d3 e3 f3 g3 h3 => E2.rec (motive := fun _ => R) (fun a2 b2 c2 d2 e2 f2 g2 h2 => E1.rec (motive := fun _ => R) (fun a1 b1 c1 d1 e1 f1 g1 h1 => K ⟨a, ⟨⟨a2,b2,c2,d2,⟨a1,b1,c1,d1,e1,f1,v,h1⟩,f2,g2,h2⟩,c3,d3,e3,f3,g3,h3⟩⟩) e2) b3) r) e
noncomputable def p103 : Pt := fun e v K => Env.rec (motive := fun _ => R) (fun a r => EnvR.rec (motive := fun _ => R) (fun b3 c3 d3 e3 f3 g3 h3 => E2.rec (motive := fun _ => R) (fun a2 b2 c2 d2 e2 f2 g2 h2 => E1.rec (motive := fun _ => R) (fun a1 b1 c1 d1 e1 f1 g1 h1 => K ⟨a, ⟨⟨a2,b2,c2,d2,⟨a1,b1,c1,d1,e1,f1,g1,v⟩,f2,g2,h2⟩,c3,d3,e3,f3,g3,h3⟩⟩) e2) b3) r) e
noncomputable def p104 : Pt := fun e v K => Env.rec (motive := fun _ => R) (fun a r => EnvR.rec (motive := fun _ => R) (fun b3 c3 d3 e3 f3 g3 h3 => E2.rec (motive := fun _ => R) (fun a2 b2 c2 d2 e2 f2 g2 h2 => E1.rec (motive := fun _ => R) (fun a1 b1 c1 d1 e1 f1 g1 h1 => K ⟨a, ⟨⟨a2,b2,c2,d2,e2,⟨v,b1,c1,d1,e1,f1,g1,h1⟩,g2,h2⟩,c3,d3,e3,f3,g3,h3⟩⟩) f2) b3) r) e
noncomputable def p105 : Pt := fun e v K => Env.rec (motive := fun _ => R) (fun a r => EnvR.rec (motive := fun _ => R) (fun b3 c3 d3 e3 f3 g3 h3 => E2.rec (motive := fun _ => R) (fun a2 b2 c2 d2 e2 f2 g2 h2 => E1.rec (motive := fun _ => R) (fun a1 b1 c1 d1 e1 f1 g1 h1 => K ⟨a, ⟨⟨a2,b2,c2,d2,e2,⟨a1,v,c1,d1,e1,f1,g1,h1⟩,g2,h2⟩,c3,d3,e3,f3,g3,h3⟩⟩) f2) b3) r) e
noncomputable def p106 : Pt := fun e v K => Env.rec (motive := fun _ => R) (fun a r => EnvR.rec (motive := fun _ => R) (fun b3 c3 d3 e3 f3 g3 h3 => E2.rec (motive := fun _ => R) (fun a2 b2 c2 d2 e2 f2 g2 h2 => E1.rec (motive := fun _ => R) (fun a1 b1 c1 d1 e1 f1 g1 h1 => K ⟨a, ⟨⟨a2,b2,c2,d2,e2,⟨a1,b1,v,d1,e1,f1,g1,h1⟩,g2,h2⟩,c3,d3,e3,f3,g3,h3⟩⟩) f2) b3) r) e
noncomputable def p107 : Pt := fun e v K => Env.rec (motive := fun _ => R) (fun a r => EnvR.rec (motive := fun _ => R) (fun b3 c3 d3 e3 f3 g3 h3 => E2.rec (motive := fun _ => R) (fun a2 b2 c2 d2 e2 f2 g2 h2 => E1.rec (motive := fun _ => R) (fun a1 b1 c1 d1 e1 f1 g1 h1 => K ⟨a, ⟨⟨a2,b2,c2,d2,e2,⟨a1,b1,c1,v,e1,f1,g1,h1⟩,g2,h2⟩,c3,d3,e3,f3,g3,h3⟩⟩) f2) b3) r) e
noncomputable def p108 : Pt := fun e v K => Env.rec (motive := fun _ => R) (fun a r => EnvR.rec (motive := fun _ => R) (fun b3 c3 d3 e3 f3 g3 h3 => E2.rec (motive := fun _ => R) (fun a2 b2 c2 d2 e2 f2 g2 h2 => E1.rec (motive := fun _ => R) (fun a1 b1 c1 d1 e1 f1 g1 h1 => K ⟨a, ⟨⟨a2,b2,c2,d2,e2,⟨a1,b1,c1,d1,v,f1,g1,h1⟩,g2,h2⟩,c3,d3,e3,f3,g3,h3⟩⟩) f2) b3) r) e
noncomputable def p109 : Pt := fun e v K => Env.rec (motive := fun _ => R) (fun a r => EnvR.rec (motive := fun _ => R) (fun b3 c3 d3 e3 f3 g3 h3 => E2.rec (motive := fun _ => R) (fun a2 b2 c2 d2 e2 f2 g2 h2 => E1.rec (motive := fun _ => R) (fun a1 b1 c1 d1 e1 f1 g1 h1 => K ⟨a, ⟨⟨a2,b2,c2,d2,e2,⟨a1,b1,c1,d1,e1,v,g1,h1⟩,g2,h2⟩,c3,d3,e3,f3,g3,h3⟩⟩) f2) b3) r) e
noncomputable def p110 : Pt := fun e v K => Env.rec (motive := fun _ => R) (fun a r => EnvR.rec (motive := fun _ => R) (fun b3 c3 d3 e3 f3 g3 h3 => E2.rec (motive := fun _ => R) (fun a2 b2 c2 d2 e2 f2 g2 h2 => E1.rec (motive := fun _ => R) (fun a1 b1 c1 d1 e1 f1 g1 h1 => K ⟨a, ⟨⟨a2,b2,c2,d2,e2,⟨a1,b1,c1,d1,e1,f1,v,h1⟩,g2,h2⟩,c3,d3,e3,f3,g3,h3⟩⟩) f2) b3) r) e
noncomputable def p111 : Pt := fun e v K => Env.rec (motive := fun _ => R) (fun a r => EnvR.rec (motive := fun _ => R) (fun b3 c3 d3 e3 f3 g3 h3 => E2.rec (motive := fun _ => R) (fun a2 b2 c2 d2 e2 f2 g2 h2 => E1.rec (motive := fun _ => R) (fun a1 b1 c1 d1 e1 f1 g1 h1 => K ⟨a, ⟨⟨a2,b2,c2,d2,e2,⟨a1,b1,c1,d1,e1,f1,g1,v⟩,g2,h2⟩,c3,d3,e3,f3,g3,h3⟩⟩) f2) b3) r) e
noncomputable def p112 : Pt := fun e v K => Env.rec (motive := fun _ => R) (fun a r => EnvR.rec (motive := fun _ => R) (fun b3 c3 d3 e3 f3 g3 h3 => E2.rec (motive := fun _ => R) (fun a2 b2 c2 d2 e2 f2 g2 h2 => E1.rec (motive := fun _ => R) (fun a1 b1 c1 d1 e1 f1 g1 h1 => K ⟨a, ⟨⟨a2,b2,c2,d2,e2,f2,⟨v,b1,c1,d1,e1,f1,g1,h1⟩,h2⟩,c3,d3,e3,f3,g3,h3⟩⟩) g2) b3) r) e
noncomputable def p113 : Pt := fun e v K => Env.rec (motive := fun _ => R) (fun a r => EnvR.rec (motive := fun _ => R) (fun b3 c3 d3 e3 f3 g3 h3 => E2.rec (motive := fun _ => R) (fun a2 b2 c2 d2 e2 f2 g2 h2 => E1.rec (motive := fun _ => R) (fun a1 b1 c1 d1 e1 f1 g1 h1 => K ⟨a, ⟨⟨a2,b2,c2,d2,e2,f2,⟨a1,v,c1,d1,e1,f1,g1,h1⟩,h2⟩,c3,d3,e3,f3,g3,h3⟩⟩) g2) b3) r) e
noncomputable def p114 : Pt := fun e v K => Env.rec (motive := fun _ => R) (fun a r => EnvR.rec (motive := fun _ => R) (fun b3 c3 d3 e3 f3 g3 h3 => E2.rec (motive := fun _ => R) (fun a2 b2 c2 d2 e2 f2 g2 h2 => E1.rec (motive := fun _ => R) (fun a1 b1 c1 d1 e1 f1 g1 h1 => K ⟨a, ⟨⟨a2,b2,c2,d2,e2,f2,⟨a1,b1,v,d1,e1,f1,g1,h1⟩,h2⟩,c3,d3,e3,f3,g3,h3⟩⟩) g2) b3) r) e
noncomputable def p115 : Pt := fun e v K => Env.rec (motive := fun _ => R) (fun a r => EnvR.rec (motive := fun _ => R) (fun b3 c3 d3 e3 f3 g3 h3 => E2.rec (motive := fun _ => R) (fun a2 b2 c2 d2 e2 f2 g2 h2 => E1.rec (motive := fun _ => R) (fun a1 b1 c1 d1 e1 f1 g1 h1 => K ⟨a, ⟨⟨a2,b2,c2,d2,e2,f2,⟨a1,b1,c1,v,e1,f1,g1,h1⟩,h2⟩,c3,d3,e3,f3,g3,h3⟩⟩) g2) b3) r) e
noncomputable def p116 : Pt := fun e v K => Env.rec (motive := fun _ => R) (fun a r => EnvR.rec (motive := fun _ => R) (fun b3 c3 d3 e3 f3 g3 h3 => E2.rec (motive := fun _ => R) (fun a2 b2 c2 d2 e2 f2 g2 h2 => E1.rec (motive := fun _ => R) (fun a1 b1 c1 d1 e1 f1 g1 h1 => K ⟨a, ⟨⟨a2,b2,c2,d2,e2,f2,⟨a1,b1,c1,d1,v,f1,g1,h1⟩,h2⟩,c3,d3,e3,f3,g3,h3⟩⟩) g2) b3) r) e
noncomputable def p117 : Pt := fun e v K => Env.rec (motive := fun _ => R) (fun a r => EnvR.rec (motive := fun _ => R) (fun b3 c3 d3 e3 f3 g3 h3 => E2.rec (motive := fun _ => R) (fun a2 b2 c2 d2 e2 f2 g2 h2 => E1.rec (motive := fun _ => R) (fun a1 b1 c1 d1 e1 f1 g1 h1 => K ⟨a, ⟨⟨a2,b2,c2,d2,e2,f2,⟨a1,b1,c1,d1,e1,v,g1,h1⟩,h2⟩,c3,d3,e3,f3,g3,h3⟩⟩) g2) b3) r) e
noncomputable def p118 : Pt := fun e v K => Env.rec (motive := fun _ => R) (fun a r => EnvR.rec (motive := fun _ => R) (fun b3 c3 d3 e3 f3 g3 h3 => E2.rec (motive := fun _ => R) (fun a2 b2 c2 d2 e2 f2 g2 h2 => E1.rec (motive := fun _ => R) (fun a1 b1 c1 d1 e1 f1 g1 h1 => K ⟨a, ⟨⟨a2,b2,c2,d2,e2,f2,⟨a1,b1,c1,d1,e1,f1,v,h1⟩,h2⟩,c3,d3,e3,f3,g3,h3⟩⟩) g2) b3) r) e
noncomputable def p119 : Pt := fun e v K => Env.rec (motive := fun _ => R) (fun a r => EnvR.rec (motive := fun _ => R) (fun b3 c3 d3 e3 f3 g3 h3 => E2.rec (motive := fun _ => R) (fun a2 b2 c2 d2 e2 f2 g2 h2 => E1.rec (motive := fun _ => R) (fun a1 b1 c1 d1 e1 f1 g1 h1 => K ⟨a, ⟨⟨a2,b2,c2,d2,e2,f2,⟨a1,b1,c1,d1,e1,f1,g1,v⟩,h2⟩,c3,d3,e3,f3,g3,h3⟩⟩) g2) b3) r) e
noncomputable def p120 : Pt := fun e v K => Env.rec (motive := fun _ => R) (fun a r => EnvR.rec (motive := fun _ => R) (fun b3 c3 d3 e3 f3 g3 h3 => E2.rec (motive := fun _ => R) (fun a2 b2 c2 d2 e2 f2 g2 h2 => E1.rec (motive := fun _ => R) (fun a1 b1 c1 d1 e1 f1 g1 h1 => K ⟨a, ⟨⟨a2,b2,c2,d2,e2,f2,g2,⟨v,b1,c1,d1,e1,f1,g1,h1⟩⟩,c3,d3,e3,f3,g3,h3⟩⟩) h2) b3) r) e
noncomputable def p121 : Pt := fun e v K => Env.rec (motive := fun _ => R) (fun a r => EnvR.rec (motive := fun _ => R) (fun b3 c3 d3 e3 f3 g3 h3 => E2.rec (motive := fun _ => R) (fun a2 b2 c2 d2 e2 f2 g2 h2 => E1.rec (motive := fun _ => R) (fun a1 b1 c1 d1 e1 f1 g1 h1 => K ⟨a, ⟨⟨a2,b2,c2,d2,e2,f2,g2,⟨a1,v,c1,d1,e1,f1,g1,h1⟩⟩,c3,d3,e3,f3,g3,h3⟩⟩) h2) b3) r) e
noncomputable def p122 : Pt := fun e v K => Env.rec (motive := fun _ => R) (fun a r => EnvR.rec (motive := fun _ => R) (fun b3 c3 d3 e3 f3 g3 h3 => E2.rec (motive := fun _ => R) (fun a2 b2 c2 d2 e2 f2 g2 h2 => E1.rec (motive := fun _ => R) (fun a1 b1 c1 d1 e1 f1 g1 h1 => K ⟨a, ⟨⟨a2,b2,c2,d2,e2,f2,g2,⟨a1,b1,v,d1,e1,f1,g1,h1⟩⟩,c3,d3,e3,f3,g3,h3⟩⟩) h2) b3) r) e
noncomputable def p123 : Pt := fun e v K => Env.rec (motive := fun _ => R) (fun a r => EnvR.rec (motive := fun _ => R) (fun b3 c3 d3 e3 f3 g3 h3 => E2.rec (motive := fun _ => R) (fun a2 b2 c2 d2 e2 f2 g2 h2 => E1.rec (motive := fun _ => R) (fun a1 b1 c1 d1 e1 f1 g1 h1 => K ⟨a, ⟨⟨a2,b2,c2,d2,e2,f2,g2,⟨a1,b1,c1,v,e1,f1,g1,h1⟩⟩,c3,d3,e3,f3,g3,h3⟩⟩) h2) b3) r) e
noncomputable def p124 : Pt := fun e v K => Env.rec (motive := fun _ => R) (fun a r => EnvR.rec (motive := fun _ => R) (fun b3 c3 d3 e3 f3 g3 h3 => E2.rec (motive := fun _ => R) (fun a2 b2 c2 d2 e2 f2 g2 h2 => E1.rec (motive := fun _ => R) (fun a1 b1 c1 d1 e1 f1 g1 h1 => K ⟨a, ⟨⟨a2,b2,c2,d2,e2,f2,g2,⟨a1,b1,c1,d1,v,f1,g1,h1⟩⟩,c3,d3,e3,f3,g3,h3⟩⟩) h2) b3) r) e
noncomputable def p125 : Pt := fun e v K => Env.rec (motive := fun _ => R) (fun a r => EnvR.rec (motive := fun _ => R) (fun b3 c3 d3 e3 f3 g3 h3 => E2.rec (motive := fun _ => R) (fun a2 b2 c2 d2 e2 f2 g2 h2 => E1.rec (motive := fun _ => R) (fun a1 b1 c1 d1 e1 f1 g1 h1 => K ⟨a, ⟨⟨a2,b2,c2,d2,e2,f2,g2,⟨a1,b1,c1,d1,e1,v,g1,h1⟩⟩,c3,d3,e3,f3,g3,h3⟩⟩) h2) b3) r) e
noncomputable def p126 : Pt := fun e v K => Env.rec (motive := fun _ => R) (fun a r => EnvR.rec (motive := fun _ => R) (fun b3 c3 d3 e3 f3 g3 h3 => E2.rec (motive := fun _ => R) (fun a2 b2 c2 d2 e2 f2 g2 h2 => E1.rec (motive := fun _ => R) (fun a1 b1 c1 d1 e1 f1 g1 h1 => K ⟨a, ⟨⟨a2,b2,c2,d2,e2,f2,g2,⟨a1,b1,c1,d1,e1,f1,v,h1⟩⟩,c3,d3,e3,f3,g3,h3⟩⟩) h2) b3) r) e
noncomputable def p127 : Pt := fun e v K => Env.rec (motive := fun _ => R) (fun a r => EnvR.rec (motive := fun _ => R) (fun b3 c3 d3 e3 f3 g3 h3 => E2.rec (motive := fun _ => R) (fun a2 b2 c2 d2 e2 f2 g2 h2 => E1.rec (motive := fun _ => R) (fun a1 b1 c1 d1 e1 f1 g1 h1 => K ⟨a, ⟨⟨a2,b2,c2,d2,e2,f2,g2,⟨a1,b1,c1,d1,e1,f1,g1,v⟩⟩,c3,d3,e3,f3,g3,h3⟩⟩) h2) b3) r) e
noncomputable def p128 : Pt := fun e v K => Env.rec (motive := fun _ => R) (fun a r => EnvR.rec (motive := fun _ => R) (fun b3 c3 d3 e3 f3 g3 h3 => E2.rec (motive := fun _ => R) (fun a2 b2 c2 d2 e2 f2 g2 h2 => E1.rec (motive := fun _ => R) (fun a1 b1 c1 d1 e1 f1 g1 h1 => K ⟨a, ⟨b3,⟨⟨v,b1,c1,d1,e1,f1,g1,h1⟩,b2,c2,d2,e2,f2,g2,h2⟩,d3,e3,f3,g3,h3⟩⟩) a2) c3) r) e
noncomputable def p129 : Pt := fun e v K => Env.rec (motive := fun _ => R) (fun a r => EnvR.rec (motive := fun _ => R) (fun b3 c3 d3 e3 f3 g3 h3 => E2.rec (motive := fun _ => R) (fun a2 b2 c2 d2 e2 f2 g2 h2 => E1.rec (motive := fun _ => R) (fun a1 b1 c1 d1 e1 f1 g1 h1 => K ⟨a, ⟨b3,⟨⟨a1,v,c1,d1,e1,f1,g1,h1⟩,b2,c2,d2,e2,f2,g2,h2⟩,d3,e3,f3,g3,h3⟩⟩) a2) c3) r) e
noncomputable def p130 : Pt := fun e v K => Env.rec (motive := fun _ => R) (fun a r => EnvR.rec (motive := fun _ => R) (fun b3 c3 d3 e3 f3 g3 h3 => E2.rec (motive := fun _ => R) (fun a2 b2 c2 d2 e2 f2 g2 h2 => E1.rec (motive := fun _ => R) (fun a1 b1 c1 d1 e1 f1 g1 h1 => K ⟨a, ⟨b3,⟨⟨a1,b1,v,d1,e1,f1,g1,h1⟩,b2,c2,d2,e2,f2,g2,h2⟩,d3,e3,f3,g3,h3⟩⟩) a2) c3) r) e
noncomputable def p131 : Pt := fun e v K => Env.rec (motive := fun _ => R) (fun a r => EnvR.rec (motive := fun _ => R) (fun b3 c3 d3 e3 f3 g3 h3 => E2.rec (motive := fun _ => R) (fun a2 b2 c2 d2 e2 f2 g2 h2 => E1.rec (motive := fun _ => R) (fun a1 b1 c1 d1 e1 f1 g1 h1 => K ⟨a, ⟨b3,⟨⟨a1,b1,c1,v,e1,f1,g1,h1⟩,b2,c2,d2,e2,f2,g2,h2⟩,d3,e3,f3,g3,h3⟩⟩) a2) c3) r) e
noncomputable def p132 : Pt := fun e v K => Env.rec (motive := fun _ => R) (fun a r => EnvR.rec (motive := fun _ => R) (fun b3 c3 d3 e3 f3 g3 h3 => E2.rec (motive := fun _ => R) (fun a2 b2 c2 d2 e2 f2 g2 h2 => E1.rec (motive := fun _ => R) (fun a1 b1 c1 d1 e1 f1 g1 h1 => K ⟨a, ⟨b3,⟨⟨a1,b1,c1,d1,v,f1,g1,h1⟩,b2,c2,d2,e2,f2,g2,h2⟩,d3,e3,f3,g3,h3⟩⟩) a2) c3) r) e
noncomputable def p133 : Pt := fun e v K => Env.rec (motive := fun _ => R) (fun a r => EnvR.rec (motive := fun _ => R) (fun b3 c3 d3 e3 f3 g3 h3 => E2.rec (motive := fun _ => R) (fun a2 b2 c2 d2 e2 f2 g2 h2 => E1.rec (motive := fun _ => R) (fun a1 b1 c1 d1 e1 f1 g1 h1 => K ⟨a, ⟨b3,⟨⟨a1,b1,c1,d1,e1,v,g1,h1⟩,b2,c2,d2,e2,f2,g2,h2⟩,d3,e3,f3,g3,h3⟩⟩) a2) c3) r) e
noncomputable def p134 : Pt := fun e v K => Env.rec (motive := fun _ => R) (fun a r => EnvR.rec (motive := fun _ => R) (fun b3 c3 d3 e3 f3 g3 h3 => E2.rec (motive := fun _ => R) (fun a2 b2 c2 d2 e2 f2 g2 h2 => E1.rec (motive := fun _ => R) (fun a1 b1 c1 d1 e1 f1 g1 h1 => K ⟨a, ⟨b3,⟨⟨a1,b1,c1,d1,e1,f1,v,h1⟩,b2,c2,d2,e2,f2,g2,h2⟩,d3,e3,f3,g3,h3⟩⟩) a2) c3) r) e
noncomputable def p135 : Pt := fun e v K => Env.rec (motive := fun _ => R) (fun a r => EnvR.rec (motive := fun _ => R) (fun b3 c3 d3 e3 f3 g3 h3 => E2.rec (motive := fun _ => R) (fun a2 b2 c2 d2 e2 f2 g2 h2 => E1.rec (motive := fun _ => R) (fun a1 b1 c1 d1 e1 f1 g1 h1 => K ⟨a, ⟨b3,⟨⟨a1,b1,c1,d1,e1,f1,g1,v⟩,b2,c2,d2,e2,f2,g2,h2⟩,d3,e3,f3,g3,h3⟩⟩) a2) c3) r) e
noncomputable def p136 : Pt := fun e v K => Env.rec (motive := fun _ => R) (fun a r => EnvR.rec (motive := fun _ => R) (fun b3 c3 d3 e3 f3 g3 h3 => E2.rec (motive := fun _ => R) (fun a2 b2 c2 d2 e2 f2 g2 h2 => E1.rec (motive := fun _ => R) (fun a1 b1 c1 d1 e1 f1 g1 h1 => K ⟨a, ⟨b3,⟨a2,⟨v,b1,c1,d1,e1,f1,g1,h1⟩,c2,d2,e2,f2,g2,h2⟩,d3,e3,f3,g3,h3⟩⟩) b2) c3) r) e
noncomputable def p137 : Pt := fun e v K => Env.rec (motive := fun _ => R) (fun a r => EnvR.rec (motive := fun _ => R) (fun b3 c3 d3 e3 f3 g3 h3 => E2.rec (motive := fun _ => R) (fun a2 b2 c2 d2 e2 f2 g2 h2 => E1.rec (motive := fun _ => R) (fun a1 b1 c1 d1 e1 f1 g1 h1 => K ⟨a, ⟨b3,⟨a2,⟨a1,v,c1,d1,e1,f1,g1,h1⟩,c2,d2,e2,f2,g2,h2⟩,d3,e3,f3,g3,h3⟩⟩) b2) c3) r) e
noncomputable def p138 : Pt := fun e v K => Env.rec (motive := fun _ => R) (fun a r => EnvR.rec (motive := fun _ => R) (fun b3 c3 d3 e3 f3 g3 h3 => E2.rec (motive := fun _ => R) (fun a2 b2 c2 d2 e2 f2 g2 h2 => E1.rec (motive := fun _ => R) (fun a1 b1 c1 d1 e1 f1 g1 h1 => K ⟨a, ⟨b3,⟨a2,⟨a1,b1,v,d1,e1,f1,g1,h1⟩,c2,d2,e2,f2,g2,h2⟩,d3,e3,f3,g3,h3⟩⟩) b2) c3) r) e
noncomputable def p139 : Pt := fun e v K => Env.rec (motive := fun _ => R) (fun a r => EnvR.rec (motive := fun _ => R) (fun b3 c3 d3 e3 f3 g3 h3 => E2.rec (motive := fun _ => R) (fun a2 b2 c2 d2 e2 f2 g2 h2 => E1.rec (motive := fun _ => R) (fun a1 b1 c1 d1 e1 f1 g1 h1 => K ⟨a, ⟨b3,⟨a2,⟨a1,b1,c1,v,e1,f1,g1,h1⟩,c2,d2,e2,f2,g2,h2⟩,d3,e3,f3,g3,h3⟩⟩) b2) c3) r) e
noncomputable def p140 : Pt := fun e v K => Env.rec (motive := fun _ => R) (fun a r => EnvR.rec (motive := fun _ => R) (fun b3 c3 d3 e3 f3 g3 h3 => E2.rec (motive := fun _ => R) (fun a2 b2 c2 d2 e2 f2 g2 h2 => E1.rec (motive := fun _ => R) (fun a1 b1 c1 d1 e1 f1 g1 h1 => K ⟨a, ⟨b3,⟨a2,⟨a1,b1,c1,d1,v,f1,g1,h1⟩,c2,d2,e2,f2,g2,h2⟩,d3,e3,f3,g3,h3⟩⟩) b2) c3) r) e
noncomputable def p141 : Pt := fun e v K => Env.rec (motive := fun _ => R) (fun a r => EnvR.rec (motive := fun _ => R) (fun b3 c3 d3 e3 f3 g3 h3 => E2.rec (motive := fun _ => R) (fun a2 b2 c2 d2 e2 f2 g2 h2 => E1.rec (motive := fun _ => R) (fun a1 b1 c1 d1 e1 f1 g1 h1 => K ⟨a, ⟨b3,⟨a2,⟨a1,b1,c1,d1,e1,v,g1,h1⟩,c2,d2,e2,f2,g2,h2⟩,d3,e3,f3,g3,h3⟩⟩) b2) c3) r) e
noncomputable def p142 : Pt := fun e v K => Env.rec (motive := fun _ => R) (fun a r => EnvR.rec (motive := fun _ => R) (fun b3 c3 d3 e3 f3 g3 h3 => E2.rec (motive := fun _ => R) (fun a2 b2 c2 d2 e2 f2 g2 h2 => E1.rec (motive := fun _ => R) (fun a1 b1 c1 d1 e1 f1 g1 h1 => K ⟨a, ⟨b3,⟨a2,⟨a1,b1,c1,d1,e1,f1,v,h1⟩,c2,d2,e2,f2,g2,h2⟩,d3,e3,f3,g3,h3⟩⟩) b2) c3) r) e
noncomputable def p143 : Pt := fun e v K => Env.rec (motive := fun _ => R) (fun a r => EnvR.rec (motive := fun _ => R) (fun b3 c3 d3 e3 f3 g3 h3 => E2.rec (motive := fun _ => R) (fun a2 b2 c2 d2 e2 f2 g2 h2 => E1.rec (motive := fun _ => R) (fun a1 b1 c1 d1 e1 f1 g1 h1 => K ⟨a, ⟨b3,⟨a2,⟨a1,b1,c1,d1,e1,f1,g1,v⟩,c2,d2,e2,f2,g2,h2⟩,d3,e3,f3,g3,h3⟩⟩) b2) c3) r) e
noncomputable def p144 : Pt := fun e v K => Env.rec (motive := fun _ => R) (fun a r => EnvR.rec (motive := fun _ => R) (fun b3 c3 d3 e3 f3 g3 h3 => E2.rec (motive := fun _ => R) (fun a2 b2 c2 d2 e2 f2 g2 h2 => E1.rec (motive := fun _ => R) (fun a1 b1 c1 d1 e1 f1 g1 h1 => K ⟨a, ⟨b3,⟨a2,b2,⟨v,b1,c1,d1,e1,f1,g1,h1⟩,d2,e2,f2,g2,h2⟩,d3,e3,f3,g3,h3⟩⟩) c2) c3) r) e
noncomputable def p145 : Pt := fun e v K => Env.rec (motive := fun _ => R) (fun a r => EnvR.rec (motive := fun _ => R) (fun b3 c3 d3 e3 f3 g3 h3 => E2.rec (motive := fun _ => R) (fun a2 b2 c2 d2 e2 f2 g2 h2 => E1.rec (motive := fun _ => R) (fun a1 b1 c1 d1 e1 f1 g1 h1 => K ⟨a, ⟨b3,⟨a2,b2,⟨a1,v,c1,d1,e1,f1,g1,h1⟩,d2,e2,f2,g2,h2⟩,d3,e3,f3,g3,h3⟩⟩) c2) c3) r) e
noncomputable def p146 : Pt := fun e v K => Env.rec (motive := fun _ => R) (fun a r => EnvR.rec (motive := fun _ => R) (fun b3 c3 d3 e3 f3 g3 h3 => E2.rec (motive := fun _ => R) (fun a2 b2 c2 d2 e2 f2 g2 h2 => E1.rec (motive := fun _ => R) (fun a1 b1 c1 d1 e1 f1 g1 h1 => K ⟨a, ⟨b3,⟨a2,b2,⟨a1,b1,v,d1,e1,f1,g1,h1⟩,d2,e2,f2,g2,h2⟩,d3,e3,f3,g3,h3⟩⟩) c2) c3) r) e
noncomputable def p147 : Pt := fun e v K => Env.rec (motive := fun _ => R) (fun a r => EnvR.rec (motive := fun _ => R) (fun b3 c3 d3 e3 f3 g3 h3 => E2.rec (motive := fun _ => R) (fun a2 b2 c2 d2 e2 f2 g2 h2 => E1.rec (motive := fun _ => R) (fun a1 b1 c1 d1 e1 f1 g1 h1 => K ⟨a, ⟨b3,⟨a2,b2,⟨a1,b1,c1,v,e1,f1,g1,h1⟩,d2,e2,f2,g2,h2⟩,d3,e3,f3,g3,h3⟩⟩) c2) c3) r) e
noncomputable def p148 : Pt := fun e v K => Env.rec (motive := fun _ => R) (fun a r => EnvR.rec (motive := fun _ => R) (fun b3 c3 d3 e3 f3 g3 h3 => E2.rec (motive := fun _ => R) (fun a2 b2 c2 d2 e2 f2 g2 h2 => E1.rec (motive := fun _ => R) (fun a1 b1 c1 d1 e1 f1 g1 h1 => K ⟨a, ⟨b3,⟨a2,b2,⟨a1,b1,c1,d1,v,f1,g1,h1⟩,d2,e2,f2,g2,h2⟩,d3,e3,f3,g3,h3⟩⟩) c2) c3) r) e
noncomputable def p149 : Pt := fun e v K => Env.rec (motive := fun _ => R) (fun a r => EnvR.rec (motive := fun _ => R) (fun b3 c3 d3 e3 f3 g3 h3 => E2.rec (motive := fun _ => R) (fun a2 b2 c2 d2 e2 f2 g2 h2 => E1.rec (motive := fun _ => R) (fun a1 b1 c1 d1 e1 f1 g1 h1 => K ⟨a, ⟨b3,⟨a2,b2,⟨a1,b1,c1,d1,e1,v,g1,h1⟩,d2,e2,f2,g2,h2⟩,d3,e3,f3,g3,h3⟩⟩) c2) c3) r) e
noncomputable def p150 : Pt := fun e v K => Env.rec (motive := fun _ => R) (fun a r => EnvR.rec (motive := fun _ => R) (fun b3 c3 d3 e3 f3 g3 h3 => E2.rec (motive := fun _ => R) (fun a2 b2 c2 d2 e2 f2 g2 h2 => E1.rec (motive := fun _ => R) (fun a1 b1 c1 d1 e1 f1 g1 h1 => K ⟨a, ⟨b3,⟨a2,b2,⟨a1,b1,c1,d1,e1,f1,v,h1⟩,d2,e2,f2,g2,h2⟩,d3,e3,f3,g3,h3⟩⟩) c2) c3) r) e
noncomputable def p151 : Pt := fun e v K => Env.rec (motive := fun _ => R) (fun a r => EnvR.rec (motive := fun _ => R) (fun b3 c3 d3 e3 f3 g3 h3 => E2.rec (motive := fun _ => R) (fun a2 b2 c2 d2 e2 f2 g2 h2 => E1.rec (motive := fun _ => R) (fun a1 b1 c1 d1 e1 f1 g1 h1 => K ⟨a, ⟨b3,⟨a2,b2,⟨a1,b1,c1,d1,e1,f1,g1,v⟩,d2,e2,f2,g2,h2⟩,d3,e3,f3,g3,h3⟩⟩) c2) c3) r) e
noncomputable def p152 : Pt := fun e v K => Env.rec (motive := fun _ => R) (fun a r => EnvR.rec (motive := fun _ => R) (fun b3 c3 d3 e3 f3 g3 h3 => E2.rec (motive := fun _ => R) (fun a2 b2 c2 d2 e2 f2 g2 h2 => E1.rec (motive := fun _ => R) (fun a1 b1 c1 d1 e1 f1 g1 h1 => K ⟨a, ⟨b3,⟨a2,b2,c2,⟨v,b1,c1,d1,e1,f1,g1,h1⟩,e2,f2,g2,h2⟩,d3,e3,f3,g3,h3⟩⟩) d2) c3) r) e
noncomputable def p153 : Pt := fun e v K => Env.rec (motive := fun _ => R) (fun a r => EnvR.rec (motive := fun _ => R) (fun b3 c3 d3 e3 f3 g3 h3 => E2.rec (motive := fun _ => R) (fun a2 b2 c2 d2 e2 f2 g2 h2 => E1.rec (motive := fun _ => R) (fun a1 b1 c1 d1 e1 f1 g1 h1 => K ⟨a, ⟨b3,⟨a2,b2,c2,⟨a1,v,c1,d1,e1,f1,g1,h1⟩,e2,f2,g2,h2⟩,d3,e3,f3,g3,h3⟩⟩) d2) c3) r) e
noncomputable def p154 : Pt := fun e v K => Env.rec (motive := fun _ => R) (fun a r => EnvR.rec (motive := fun _ => R) (fun b3 c3 d3 e3 f3 g3 h3 => E2.rec (motive := fun _ => R) (fun a2 b2 c2 d2 e2 f2 g2 h2 => E1.rec (motive := fun _ => R) (fun a1 b1 c1 d1 e1 f1 g1 h1 => K ⟨a, ⟨b3,⟨a2,b2,c2,⟨a1,b1,v,d1,e1,f1,g1,h1⟩,e2,f2,g2,h2⟩,d3,e3,f3,g3,h3⟩⟩) d2) c3) r) e
noncomputable def p155 : Pt := fun e v K => Env.rec (motive := fun _ => R) (fun a r => EnvR.rec (motive := fun _ => R) (fun b3 c3 d3 e3 f3 g3 h3 => E2.rec (motive := fun _ => R) (fun a2 b2 c2 d2 e2 f2 g2 h2 => E1.rec (motive := fun _ => R) (fun a1 b1 c1 d1 e1 f1 g1 h1 => K ⟨a, ⟨b3,⟨a2,b2,c2,⟨a1,b1,c1,v,e1,f1,g1,h1⟩,e2,f2,g2,h2⟩,d3,e3,f3,g3,h3⟩⟩) d2) c3) r) e
noncomputable def p156 : Pt := fun e v K => Env.rec (motive := fun _ => R) (fun a r => EnvR.rec (motive := fun _ => R) (fun b3 c3 d3 e3 f3 g3 h3 => E2.rec (motive := fun _ => R) (fun a2 b2 c2 d2 e2 f2 g2 h2 => E1.rec (motive := fun _ => R) (fun a1 b1 c1 d1 e1 f1 g1 h1 => K ⟨a, ⟨b3,⟨a2,b2,c2,⟨a1,b1,c1,d1,v,f1,g1,h1⟩,e2,f2,g2,h2⟩,d3,e3,f3,g3,h3⟩⟩) d2) c3) r) e
noncomputable def p157 : Pt := fun e v K => Env.rec (motive := fun _ => R) (fun a r => EnvR.rec (motive := fun _ => R) (fun b3 c3 d3 e3 f3 g3 h3 => E2.rec (motive := fun _ => R) (fun a2 b2 c2 d2 e2 f2 g2 h2 => E1.rec (motive := fun _ => R) (fun a1 b1 c1 d1 e1 f1 g1 h1 => K ⟨a, ⟨b3,⟨a2,b2,c2,⟨a1,b1,c1,d1,e1,v,g1,h1⟩,e2,f2,g2,h2⟩,d3,e3,f3,g3,h3⟩⟩) d2) c3) r) e
noncomputable def p158 : Pt := fun e v K => Env.rec (motive := fun _ => R) (fun a r => EnvR.rec (motive := fun _ => R) (fun b3 c3 d3 e3 f3 g3 h3 => E2.rec (motive := fun _ => R) (fun a2 b2 c2 d2 e2 f2 g2 h2 => E1.rec (motive := fun _ => R) (fun a1 b1 c1 d1 e1 f1 g1 h1 => K ⟨a, ⟨b3,⟨a2,b2,c2,⟨a1,b1,c1,d1,e1,f1,v,h1⟩,e2,f2,g2,h2⟩,d3,e3,f3,g3,h3⟩⟩) d2) c3) r) e
noncomputable def p159 : Pt := fun e v K => Env.rec (motive := fun _ => R) (fun a r => EnvR.rec (motive := fun _ => R) (fun b3 c3 d3 e3 f3 g3 h3 => E2.rec (motive := fun _ => R) (fun a2 b2 c2 d2 e2 f2 g2 h2 => E1.rec (motive := fun _ => R) (fun a1 b1 c1 d1 e1 f1 g1 h1 => K ⟨a, ⟨b3,⟨a2,b2,c2,⟨a1,b1,c1,d1,e1,f1,g1,v⟩,e2,f2,g2,h2⟩,d3,e3,f3,g3,h3⟩⟩) d2) c3) r) e
noncomputable def p160 : Pt := fun e v K => Env.rec (motive := fun _ => R) (fun a r => EnvR.rec (motive := fun _ => R) (fun b3 c3 d3 e3 f3 g3 h3 => E2.rec (motive := fun _ => R) (fun a2 b2 c2 d2 e2 f2 g2 h2 => E1.rec (motive := fun _ => R) (fun a1 b1 c1 d1 e1 f1 g1 h1 => K ⟨a, ⟨b3,⟨a2,b2,c2,d2,⟨v,b1,c1,d1,e1,f1,g1,h1⟩,f2,g2,h2⟩,d3,e3,f3,g3,h3⟩⟩) e2) c3) r) e
noncomputable def p161 : Pt := fun e v K => Env.rec (motive := fun _ => R) (fun a r => EnvR.rec (motive := fun _ => R) (fun b3 c3 d3 e3 f3 g3 h3 => E2.rec (motive := fun _ => R) (fun a2 b2 c2 d2 e2 f2 g2 h2 => E1.rec (motive := fun _ => R) (fun a1 b1 c1 d1 e1 f1 g1 h1 => K ⟨a, ⟨b3,⟨a2,b2,c2,d2,⟨a1,v,c1,d1,e1,f1,g1,h1⟩,f2,g2,h2⟩,d3,e3,f3,g3,h3⟩⟩) e2) c3) r) e
noncomputable def p162 : Pt := fun e v K => Env.rec (motive := fun _ => R) (fun a r => EnvR.rec (motive := fun _ => R) (fun b3 c3 d3 e3 f3 g3 h3 => E2.rec (motive := fun _ => R) (fun a2 b2 c2 d2 e2 f2 g2 h2 => E1.rec (motive := fun _ => R) (fun a1 b1 c1 d1 e1 f1 g1 h1 => K ⟨a, ⟨b3,⟨a2,b2,c2,d2,⟨a1,b1,v,d1,e1,f1,g1,h1⟩,f2,g2,h2⟩,d3,e3,f3,g3,h3⟩⟩) e2) c3) r) e
noncomputable def p163 : Pt := fun e v K => Env.rec (motive := fun _ => R) (fun a r => EnvR.rec (motive := fun _ => R) (fun b3 c3 d3 e3 f3 g3 h3 => E2.rec (motive := fun _ => R) (fun a2 b2 c2 d2 e2 f2 g2 h2 => E1.rec (motive := fun _ => R) (fun a1 b1 c1 d1 e1 f1 g1 h1 => K ⟨a, ⟨b3,⟨a2,b2,c2,d2,⟨a1,b1,c1,v,e1,f1,g1,h1⟩,f2,g2,h2⟩,d3,e3,f3,g3,h3⟩⟩) e2) c3) r) e
noncomputable def p164 : Pt := fun e v K => Env.rec (motive := fun _ => R) (fun a r => EnvR.rec (motive := fun _ => R) (fun b3 c3 d3 e3 f3 g3 h3 => E2.rec (motive := fun _ => R) (fun a2 b2 c2 d2 e2 f2 g2 h2 => E1.rec (motive := fun _ => R) (fun a1 b1 c1 d1 e1 f1 g1 h1 => K ⟨a, ⟨b3,⟨a2,b2,c2,d2,⟨a1,b1,c1,d1,v,f1,g1,h1⟩,f2,g2,h2⟩,d3,e3,f3,g3,h3⟩⟩) e2) c3) r) e
noncomputable def p165 : Pt := fun e v K => Env.rec (motive := fun _ => R) (fun a r => EnvR.rec (motive := fun _ => R) (fun b3 c3 d3 e3 f3 g3 h3 => E2.rec (motive := fun _ => R) (fun a2 b2 c2 d2 e2 f2 g2 h2 => E1.rec (motive := fun _ => R) (fun a1 b1 c1 d1 e1 f1 g1 h1 => K ⟨a, ⟨b3,⟨a2,b2,c2,d2,⟨a1,b1,c1,d1,e1,v,g1,h1⟩,f2,g2,h2⟩,d3,e3,f3,g3,h3⟩⟩) e2) c3) r) e
noncomputable def p166 : Pt := fun e v K => Env.rec (motive := fun _ => R) (fun a r => EnvR.rec (motive := fun _ => R) (fun b3 c3 d3 e3 f3 g3 h3 => E2.rec (motive := fun _ => R) (fun a2 b2 c2 d2 e2 f2 g2 h2 => E1.rec (motive := fun _ => R) (fun a1 b1 c1 d1 e1 f1 g1 h1 => K ⟨a, ⟨b3,⟨a2,b2,c2,d2,⟨a1,b1,c1,d1,e1,f1,v,h1⟩,f2,g2,h2⟩,d3,e3,f3,g3,h3⟩⟩) e2) c3) r) e
noncomputable def p167 : Pt := fun e v K => Env.rec (motive := fun _ => R) (fun a r => EnvR.rec (motive := fun _ => R) (fun b3 c3 d3 e3 f3 g3 h3 => E2.rec (motive := fun _ => R) (fun a2 b2 c2 d2 e2 f2 g2 h2 => E1.rec (motive := fun _ => R) (fun a1 b1 c1 d1 e1 f1 g1 h1 => K ⟨a, ⟨b3,⟨a2,b2,c2,d2,⟨a1,b1,c1,d1,e1,f1,g1,v⟩,f2,g2,h2⟩,d3,e3,f3,g3,h3⟩⟩) e2) c3) r) e
noncomputable def p168 : Pt := fun e v K => Env.rec (motive := fun _ => R) (fun a r => EnvR.rec (motive := fun _ => R) (fun b3 c3 d3 e3 f3 g3 h3 => E2.rec (motive := fun _ => R) (fun a2 b2 c2 d2 e2 f2 g2 h2 => E1.rec (motive := fun _ => R) (fun a1 b1 c1 d1 e1 f1 g1 h1 => K ⟨a, ⟨b3,⟨a2,b2,c2,d2,e2,⟨v,b1,c1,d1,e1,f1,g1,h1⟩,g2,h2⟩,d3,e3,f3,g3,h3⟩⟩) f2) c3) r) e
noncomputable def p169 : Pt := fun e v K => Env.rec (motive := fun _ => R) (fun a r => EnvR.rec (motive := fun _ => R) (fun b3 c3 d3 e3 f3 g3 h3 => E2.rec (motive := fun _ => R) (fun a2 b2 c2 d2 e2 f2 g2 h2 => E1.rec (motive := fun _ => R) (fun a1 b1 c1 d1 e1 f1 g1 h1 => K ⟨a, ⟨b3,⟨a2,b2,c2,d2,e2,⟨a1,v,c1,d1,e1,f1,g1,h1⟩,g2,h2⟩,d3,e3,f3,g3,h3⟩⟩) f2) c3) r) e
noncomputable def p170 : Pt := fun e v K => Env.rec (motive := fun _ => R) (fun a r => EnvR.rec (motive := fun _ => R) (fun b3 c3 d3 e3 f3 g3 h3 => E2.rec (motive := fun _ => R) (fun a2 b2 c2 d2 e2 f2 g2 h2 => E1.rec (motive := fun _ => R) (fun a1 b1 c1 d1 e1 f1 g1 h1 => K ⟨a, ⟨b3,⟨a2,b2,c2,d2,e2,⟨a1,b1,v,d1,e1,f1,g1,h1⟩,g2,h2⟩,d3,e3,f3,g3,h3⟩⟩) f2) c3) r) e
noncomputable def p171 : Pt := fun e v K => Env.rec (motive := fun _ => R) (fun a r => EnvR.rec (motive := fun _ => R) (fun b3 c3 d3 e3 f3 g3 h3 => E2.rec (motive := fun _ => R) (fun a2 b2 c2 d2 e2 f2 g2 h2 => E1.rec (motive := fun _ => R) (fun a1 b1 c1 d1 e1 f1 g1 h1 => K ⟨a, ⟨b3,⟨a2,b2,c2,d2,e2,⟨a1,b1,c1,v,e1,f1,g1,h1⟩,g2,h2⟩,d3,e3,f3,g3,h3⟩⟩) f2) c3) r) e
noncomputable def p172 : Pt := fun e v K => Env.rec (motive := fun _ => R) (fun a r => EnvR.rec (motive := fun _ => R) (fun b3 c3 d3 e3 f3 g3 h3 => E2.rec (motive := fun _ => R) (fun a2 b2 c2 d2 e2 f2 g2 h2 => E1.rec (motive := fun _ => R) (fun a1 b1 c1 d1 e1 f1 g1 h1 => K ⟨a, ⟨b3,⟨a2,b2,c2,d2,e2,⟨a1,b1,c1,d1,v,f1,g1,h1⟩,g2,h2⟩,d3,e3,f3,g3,h3⟩⟩) f2) c3) r) e
noncomputable def p173 : Pt := fun e v K => Env.rec (motive := fun _ => R) (fun a r => EnvR.rec (motive := fun _ => R) (fun b3 c3 d3 e3 f3 g3 h3 => E2.rec (motive := fun _ => R) (fun a2 b2 c2 d2 e2 f2 g2 h2 => E1.rec (motive := fun _ => R) (fun a1 b1 c1 d1 e1 f1 g1 h1 => K ⟨a, ⟨b3,⟨a2,b2,c2,d2,e2,⟨a1,b1,c1,d1,e1,v,g1,h1⟩,g2,h2⟩,d3,e3,f3,g3,h3⟩⟩) f2) c3) r) e
noncomputable def p174 : Pt := fun e v K => Env.rec (motive := fun _ => R) (fun a r => EnvR.rec (motive := fun _ => R) (fun b3 c3 d3 e3 f3 g3 h3 => E2.rec (motive := fun _ => R) (fun a2 b2 c2 d2 e2 f2 g2 h2 => E1.rec (motive := fun _ => R) (fun a1 b1 c1 d1 e1 f1 g1 h1 => K ⟨a, ⟨b3,⟨a2,b2,c2,d2,e2,⟨a1,b1,c1,d1,e1,f1,v,h1⟩,g2,h2⟩,d3,e3,f3,g3,h3⟩⟩) f2) c3) r) e
noncomputable def p175 : Pt := fun e v K => Env.rec (motive := fun _ => R) (fun a r => EnvR.rec (motive := fun _ => R) (fun b3 c3 d3 e3 f3 g3 h3 => E2.rec (motive := fun _ => R) (fun a2 b2 c2 d2 e2 f2 g2 h2 => E1.rec (motive := fun _ => R) (fun a1 b1 c1 d1 e1 f1 g1 h1 => K ⟨a, ⟨b3,⟨a2,b2,c2,d2,e2,⟨a1,b1,c1,d1,e1,f1,g1,v⟩,g2,h2⟩,d3,e3,f3,g3,h3⟩⟩) f2) c3) r) e
noncomputable def p176 : Pt := fun e v K => Env.rec (motive := fun _ => R) (fun a r => EnvR.rec (motive := fun _ => R) (fun b3 c3 d3 e3 f3 g3 h3 => E2.rec (motive := fun _ => R) (fun a2 b2 c2 d2 e2 f2 g2 h2 => E1.rec (motive := fun _ => R) (fun a1 b1 c1 d1 e1 f1 g1 h1 => K ⟨a, ⟨b3,⟨a2,b2,c2,d2,e2,f2,⟨v,b1,c1,d1,e1,f1,g1,h1⟩,h2⟩,d3,e3,f3,g3,h3⟩⟩) g2) c3) r) e
noncomputable def p177 : Pt := fun e v K => Env.rec (motive := fun _ => R) (fun a r => EnvR.rec (motive := fun _ => R) (fun b3 c3 d3 e3 f3 g3 h3 => E2.rec (motive := fun _ => R) (fun a2 b2 c2 d2 e2 f2 g2 h2 => E1.rec (motive := fun _ => R) (fun a1 b1 c1 d1 e1 f1 g1 h1 => K ⟨a, ⟨b3,⟨a2,b2,c2,d2,e2,f2,⟨a1,v,c1,d1,e1,f1,g1,h1⟩,h2⟩,d3,e3,f3,g3,h3⟩⟩) g2) c3) r) e
noncomputable def p178 : Pt := fun e v K => Env.rec (motive := fun _ => R) (fun a r => EnvR.rec (motive := fun _ => R) (fun b3 c3 d3 e3 f3 g3 h3 => E2.rec (motive := fun _ => R) (fun a2 b2 c2 d2 e2 f2 g2 h2 => E1.rec (motive := fun _ => R) (fun a1 b1 c1 d1 e1 f1 g1 h1 => K ⟨a, ⟨b3,⟨a2,b2,c2,d2,e2,f2,⟨a1,b1,v,d1,e1,f1,g1,h1⟩,h2⟩,d3,e3,f3,g3,h3⟩⟩) g2) c3) r) e
noncomputable def p179 : Pt := fun e v K => Env.rec (motive := fun _ => R) (fun a r => EnvR.rec (motive := fun _ => R) (fun b3 c3 d3 e3 f3 g3 h3 => E2.rec (motive := fun _ => R) (fun a2 b2 c2 d2 e2 f2 g2 h2 => E1.rec (motive := fun _ => R) (fun a1 b1 c1 d1 e1 f1 g1 h1 => K ⟨a, ⟨b3,⟨a2,b2,c2,d2,e2,f2,⟨a1,b1,c1,v,e1,f1,g1,h1⟩,h2⟩,d3,e3,f3,g3,h3⟩⟩) g2) c3) r) e
noncomputable def p180 : Pt := fun e v K => Env.rec (motive := fun _ => R) (fun a r => EnvR.rec (motive := fun _ => R) (fun b3 c3 d3 e3 f3 g3 h3 => E2.rec (motive := fun _ => R) (fun a2 b2 c2 d2 e2 f2 g2 h2 => E1.rec (motive := fun _ => R) (fun a1 b1 c1 d1 e1 f1 g1 h1 => K ⟨a, ⟨b3,⟨a2,b2,c2,d2,e2,f2,⟨a1,b1,c1,d1,v,f1,g1,h1⟩,h2⟩,d3,e3,f3,g3,h3⟩⟩) g2) c3) r) e
noncomputable def p181 : Pt := fun e v K => Env.rec (motive := fun _ => R) (fun a r => EnvR.rec (motive := fun _ => R) (fun b3 c3 d3 e3 f3 g3 h3 => E2.rec (motive := fun _ => R) (fun a2 b2 c2 d2 e2 f2 g2 h2 => E1.rec (motive := fun _ => R) (fun a1 b1 c1 d1 e1 f1 g1 h1 => K ⟨a, ⟨b3,⟨a2,b2,c2,d2,e2,f2,⟨a1,b1,c1,d1,e1,v,g1,h1⟩,h2⟩,d3,e3,f3,g3,h3⟩⟩) g2) c3) r) e
noncomputable def p182 : Pt := fun e v K => Env.rec (motive := fun _ => R) (fun a r => EnvR.rec (motive := fun _ => R) (fun b3 c3 d3 e3 f3 g3 h3 => E2.rec (motive := fun _ => R) (fun a2 b2 c2 d2 e2 f2 g2 h2 => E1.rec (motive := fun _ => R) (fun a1 b1 c1 d1 e1 f1 g1 h1 => K ⟨a, ⟨b3,⟨a2,b2,c2,d2,e2,f2,⟨a1,b1,c1,d1,e1,f1,v,h1⟩,h2⟩,d3,e3,f3,g3,h3⟩⟩) g2) c3) r) e
noncomputable def p183 : Pt := fun e v K => Env.rec (motive := fun _ => R) (fun a r => EnvR.rec (motive := fun _ => R) (fun b3 c3 d3 e3 f3 g3 h3 => E2.rec (motive := fun _ => R) (fun a2 b2 c2 d2 e2 f2 g2 h2 => E1.rec (motive := fun _ => R) (fun a1 b1 c1 d1 e1 f1 g1 h1 => K ⟨a, ⟨b3,⟨a2,b2,c2,d2,e2,f2,⟨a1,b1,c1,d1,e1,f1,g1,v⟩,h2⟩,d3,e3,f3,g3,h3⟩⟩) g2) c3) r) e
noncomputable def p184 : Pt := fun e v K => Env.rec (motive := fun _ => R) (fun a r => EnvR.rec (motive := fun _ => R) (fun b3 c3 d3 e3 f3 g3 h3 => E2.rec (motive := fun _ => R) (fun a2 b2 c2 d2 e2 f2 g2 h2 => E1.rec (motive := fun _ => R) (fun a1 b1 c1 d1 e1 f1 g1 h1 => K ⟨a, ⟨b3,⟨a2,b2,c2,d2,e2,f2,g2,⟨v,b1,c1,d1,e1,f1,g1,h1⟩⟩,d3,e3,f3,g3,h3⟩⟩) h2) c3) r) e
@[reducible] def s0 : Slot := ⟨.d0, .d0, .d0⟩
@[reducible] def s1 : Slot := ⟨.d0, .d0, .d1⟩
@[reducible] def s2 : Slot := ⟨.d0, .d0, .d2⟩
@[reducible] def s3 : Slot := ⟨.d0, .d0, .d3⟩
@[reducible] def s4 : Slot := ⟨.d0, .d0, .d4⟩
@[reducible] def s5 : Slot := ⟨.d0, .d0, .d5⟩
@[reducible] def s6 : Slot := ⟨.d0, .d0, .d6⟩
@[reducible] def s7 : Slot := ⟨.d0, .d0, .d7⟩
@[reducible] def s8 : Slot := ⟨.d0, .d1, .d0⟩
@[reducible] def s9 : Slot := ⟨.d0, .d1, .d1⟩
@[reducible] def s10 : Slot := ⟨.d0, .d1, .d2⟩
@[reducible] def s11 : Slot := ⟨.d0, .d1, .d3⟩
@[reducible] def s12 : Slot := ⟨.d0, .d1, .d4⟩
@[reducible] def s13 : Slot := ⟨.d0, .d1, .d5⟩
@[reducible] def s14 : Slot := ⟨.d0, .d1, .d6⟩
@[reducible] def s15 : Slot := ⟨.d0, .d1, .d7⟩
@[reducible] def s16 : Slot := ⟨.d0, .d2, .d0⟩
@[reducible] def s17 : Slot := ⟨.d0, .d2, .d1⟩
@[reducible] def s18 : Slot := ⟨.d0, .d2, .d2⟩
@[reducible] def s19 : Slot := ⟨.d0, .d2, .d3⟩
@[reducible] def s20 : Slot := ⟨.d0, .d2, .d4⟩
@[reducible] def s21 : Slot := ⟨.d0, .d2, .d5⟩
@[reducible] def s22 : Slot := ⟨.d0, .d2, .d6⟩
@[reducible] def s23 : Slot := ⟨.d0, .d2, .d7⟩
@[reducible] def s24 : Slot := ⟨.d0, .d3, .d0⟩
@[reducible] def s25 : Slot := ⟨.d0, .d3, .d1⟩
@[reducible] def s26 : Slot := ⟨.d0, .d3, .d2⟩
@[reducible] def s27 : Slot := ⟨.d0, .d3, .d3⟩
@[reducible] def s28 : Slot := ⟨.d0, .d3, .d4⟩
@[reducible] def s29 : Slot := ⟨.d0, .d3, .d5⟩
@[reducible] def s30 : Slot := ⟨.d0, .d3, .d6⟩
@[reducible] def s31 : Slot := ⟨.d0, .d3, .d7⟩
@[reducible] def s32 : Slot := ⟨.d0, .d4, .d0⟩
@[reducible] def s33 : Slot := ⟨.d0, .d4, .d1⟩
@[reducible] def s34 : Slot := ⟨.d0, .d4, .d2⟩
@[reducible] def s35 : Slot := ⟨.d0, .d4, .d3⟩
@[reducible] def s36 : Slot := ⟨.d0, .d4, .d4⟩
@[reducible] def s37 : Slot := ⟨.d0, .d4, .d5⟩
@[reducible] def s38 : Slot := ⟨.d0, .d4, .d6⟩
@[reducible] def s39 : Slot := ⟨.d0, .d4, .d7⟩
@[reducible] def s40 : Slot := ⟨.d0, .d5, .d0⟩
@[reducible] def s41 : Slot := ⟨.d0, .d5, .d1⟩
@[reducible] def s42 : Slot := ⟨.d0, .d5, .d2⟩
@[reducible] def s43 : Slot := ⟨.d0, .d5, .d3⟩
@[reducible] def s44 : Slot := ⟨.d0, .d5, .d4⟩
@[reducible] def s45 : Slot := ⟨.d0, .d5, .d5⟩
@[reducible] def s46 : Slot := ⟨.d0, .d5, .d6⟩
@[reducible] def s47 : Slot := ⟨.d0, .d5, .d7⟩
@[reducible] def s48 : Slot := ⟨.d0, .d6, .d0⟩
@[reducible] def s49 : Slot := ⟨.d0, .d6, .d1⟩
@[reducible] def s50 : Slot := ⟨.d0, .d6, .d2⟩
@[reducible] def s51 : Slot := ⟨.d0, .d6, .d3⟩
@[reducible] def s52 : Slot := ⟨.d0, .d6, .d4⟩
@[reducible] def s53 : Slot := ⟨.d0, .d6, .d5⟩
@[reducible] def s54 : Slot := ⟨.d0, .d6, .d6⟩
@[reducible] def s55 : Slot := ⟨.d0, .d6, .d7⟩
@[reducible] def s56 : Slot := ⟨.d0, .d7, .d0⟩
@[reducible] def s57 : Slot := ⟨.d0, .d7, .d1⟩
@[reducible] def s58 : Slot := ⟨.d0, .d7, .d2⟩
@[reducible] def s59 : Slot := ⟨.d0, .d7, .d3⟩
@[reducible] def s60 : Slot := ⟨.d0, .d7, .d4⟩
@[reducible] def s61 : Slot := ⟨.d0, .d7, .d5⟩
@[reducible] def s62 : Slot := ⟨.d0, .d7, .d6⟩
@[reducible] def s63 : Slot := ⟨.d0, .d7, .d7⟩
@[reducible] def s64 : Slot := ⟨.d1, .d0, .d0⟩
@[reducible] def s65 : Slot := ⟨.d1, .d0, .d1⟩
@[reducible] def s66 : Slot := ⟨.d1, .d0, .d2⟩
@[reducible] def s67 : Slot := ⟨.d1, .d0, .d3⟩
@[reducible] def s68 : Slot := ⟨.d1, .d0, .d4⟩
@[reducible] def s69 : Slot := ⟨.d1, .d0, .d5⟩
@[reducible] def s70 : Slot := ⟨.d1, .d0, .d6⟩
@[reducible] def s71 : Slot := ⟨.d1, .d0, .d7⟩
@[reducible] def s72 : Slot := ⟨.d1, .d1, .d0⟩
@[reducible] def s73 : Slot := ⟨.d1, .d1, .d1⟩
@[reducible] def s75 : Slot := ⟨.d1, .d1, .d3⟩
@[reducible] def s76 : Slot := ⟨.d1, .d1, .d4⟩
@[reducible] def s77 : Slot := ⟨.d1, .d1, .d5⟩
@[reducible] def s78 : Slot := ⟨.d1, .d1, .d6⟩
@[reducible] def s79 : Slot := ⟨.d1, .d1, .d7⟩
@[reducible] def s80 : Slot := ⟨.d1, .d2, .d0⟩
@[reducible] def s81 : Slot := ⟨.d1, .d2, .d1⟩
@[reducible] def s82 : Slot := ⟨.d1, .d2, .d2⟩
@[reducible] def s83 : Slot := ⟨.d1, .d2, .d3⟩
@[reducible] def s84 : Slot := ⟨.d1, .d2, .d4⟩
@[reducible] def s85 : Slot := ⟨.d1, .d2, .d5⟩
@[reducible] def s86 : Slot := ⟨.d1, .d2, .d6⟩
@[reducible] def s87 : Slot := ⟨.d1, .d2, .d7⟩
@[reducible] def s88 : Slot := ⟨.d1, .d3, .d0⟩
@[reducible] def s89 : Slot := ⟨.d1, .d3, .d1⟩
@[reducible] def s90 : Slot := ⟨.d1, .d3, .d2⟩
@[reducible] def s91 : Slot := ⟨.d1, .d3, .d3⟩
@[reducible] def s92 : Slot := ⟨.d1, .d3, .d4⟩
@[reducible] def s93 : Slot := ⟨.d1, .d3, .d5⟩
@[reducible] def s94 : Slot := ⟨.d1, .d3, .d6⟩
@[reducible] def s95 : Slot := ⟨.d1, .d3, .d7⟩
@[reducible] def s96 : Slot := ⟨.d1, .d4, .d0⟩
@[reducible] def s97 : Slot := ⟨.d1, .d4, .d1⟩
@[reducible] def s98 : Slot := ⟨.d1, .d4, .d2⟩
@[reducible] def s99 : Slot := ⟨.d1, .d4, .d3⟩
@[reducible] def s100 : Slot := ⟨.d1, .d4, .d4⟩
@[reducible] def s101 : Slot := ⟨.d1, .d4, .d5⟩
@[reducible] def s102 : Slot := ⟨.d1, .d4, .d6⟩
@[reducible] def s106 : Slot := ⟨.d1, .d5, .d2⟩
@[reducible] def s110 : Slot := ⟨.d1, .d5, .d6⟩
@[reducible] def s111 : Slot := ⟨.d1, .d5, .d7⟩
@[reducible] def s115 : Slot := ⟨.d1, .d6, .d3⟩
@[reducible] def s116 : Slot := ⟨.d1, .d6, .d4⟩
@[reducible] def s123 : Slot := ⟨.d1, .d7, .d3⟩
@[reducible] def s124 : Slot := ⟨.d1, .d7, .d4⟩
@[reducible] def s130 : Slot := ⟨.d2, .d0, .d2⟩
@[reducible] def s168 : Slot := ⟨.d2, .d5, .d0⟩
end KK
end Den
