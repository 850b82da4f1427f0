/- strconv.Atoi's contracts at this program, out of the library's own, and the variable that they read, out of the row's list. -/
import Derived.Shelf.LaysC
import Derived.Shelf.Strconv.Atoi
import Derived.Shelf.Strconv.AtoiErr
import Derived.Lib.AtoiBound
import Derived.Test.YtdpaopfghggiaaaDoorShelf
namespace Go.Proofs.YtdpaopfghggiaaaDoor.Shelf
open Go.Sort Go.Shelf Go.RowKit Go.Proofs.YtdpaopfghggiaaaDoorW.PrintWords Go.Proofs.YtdpaopfghggiaaaDoorW.PrintLast Go.Proofs.YtdpaopfghggiaaaDoorW.PrintMore Go.Proofs.YtdpaopfghggiaaaDoor.Base
set_option maxRecDepth 100000
set_option linter.unusedVariables false
def laysAtoi_ren : Go.Shelf.Ren where
  f := fun x => match x with | 172 => 70 | 244 => 85 | 245 => 86 | 247 => 92 | 279 => 93 | 280 => 94 | 281 => 95 | 282 => 96 | 287 => 105 | 316 => 106 | 171 => 52 | 205 => 107 | 321 => 116 | 322 => 117 | 243 => 80 | 246 => 87 | 283 => 97 | 284 => 98 | 285 => 99 | 286 => 100 | 129 => 109 | 317 => 108 | 318 => 110 | 319 => 111 | 320 => 112 | 337 => 118 | 338 => 119 | n => n
  t := fun x => match x with | 9 => 9 | 3 => 3 | 75 => 89 | 76 => 90 | 4 => 4 | 5 => 5 | 167 => 108 | 37 => 35 | 0 => 0 | 85 => 109 | 2 => 2 | 168 => 111 | 53 => 115 | 175 => 122 | 46 => 94 | 210 => 125 | 127 => 121 | 145 => 140 | 143 => 138 | 21 => 21 | 171 => 114 | 173 => 118 | 212 => 129 | 51 => 130 | 20 => 20 | 213 => 131 | 232 => 142 | 233 => 143 | 80 => 107 | n => n
  g := fun x => match x with | 15 => 0 | 16 => 1 | 17 => 2 | 18 => 4 | 19 => 5 | n => n
theorem laysAtoi : LaysC.n172 Tryd.prog laysAtoi_ren where
  mixed := by kernel_rfl
  f129 := Eq.trans Tryd.func109 (congrArg some (by kernel_rfl))
  f171 := Eq.trans Tryd.func52 (congrArg some (by kernel_rfl))
  f172 := Eq.trans Tryd.func70 (congrArg some (by kernel_rfl))
  f205 := Eq.trans Tryd.func107 (congrArg some (by kernel_rfl))
  f243 := Eq.trans Tryd.func80 (congrArg some (by kernel_rfl))
  f244 := Eq.trans Tryd.func85 (congrArg some (by kernel_rfl))
  f245 := Eq.trans Tryd.func86 (congrArg some (by kernel_rfl))
  f246 := Eq.trans Tryd.func87 (congrArg some (by kernel_rfl))
  f247 := Eq.trans Tryd.func92 (congrArg some (by kernel_rfl))
  f279 := Eq.trans Tryd.func93 (congrArg some (by kernel_rfl))
  f280 := Eq.trans Tryd.func94 (congrArg some (by kernel_rfl))
  f281 := Eq.trans Tryd.func95 (congrArg some (by kernel_rfl))
  f282 := Eq.trans Tryd.func96 (congrArg some (by kernel_rfl))
  f283 := Eq.trans Tryd.func97 (congrArg some (by kernel_rfl))
  f284 := Eq.trans Tryd.func98 (congrArg some (by kernel_rfl))
  f285 := Eq.trans Tryd.func99 (congrArg some (by kernel_rfl))
  f286 := Eq.trans Tryd.func100 (congrArg some (by kernel_rfl))
  f287 := Eq.trans Tryd.func105 (congrArg some (by kernel_rfl))
  f316 := Eq.trans Tryd.func106 (congrArg some (by kernel_rfl))
  f317 := Eq.trans Tryd.func108 (congrArg some (by kernel_rfl))
  f318 := Eq.trans Tryd.func110 (congrArg some (by kernel_rfl))
  f319 := Eq.trans Tryd.func111 (congrArg some (by kernel_rfl))
  f320 := Eq.trans Tryd.func112 (congrArg some (by kernel_rfl))
  f321 := Eq.trans Tryd.func116 (congrArg some (by kernel_rfl))
  f322 := Eq.trans Tryd.func117 (congrArg some (by kernel_rfl))
  f337 := Eq.trans Tryd.func118 (congrArg some (by kernel_rfl))
  f338 := Eq.trans Tryd.func119 (congrArg some (by kernel_rfl))
  t0 := Tryd.underlying0
  a0 := Tryd.isAgg0
  z0 := Tryd.sizeOf0
  v0 := Tryd.zeroValue0
  t2 := Tryd.underlying2
  a2 := Tryd.isAgg2
  z2 := Tryd.sizeOf2
  v2 := Tryd.zeroValue2
  t3 := Tryd.underlying3
  a3 := Tryd.isAgg3
  z3 := Tryd.sizeOf3
  v3 := Tryd.zeroValue3
  t4 := Tryd.underlying4
  a4 := Tryd.isAgg4
  z4 := Tryd.sizeOf4
  v4 := Tryd.zeroValue4
  t5 := Tryd.underlying5
  a5 := Tryd.isAgg5
  z5 := Tryd.sizeOf5
  v5 := Tryd.zeroValue5
  t9 := Tryd.underlying9
  a9 := Tryd.isAgg9
  z9 := Tryd.sizeOf9
  v9 := Tryd.zeroValue9
  t20 := Tryd.underlying20
  a20 := Tryd.isAgg20
  z20 := Tryd.sizeOf20
  v20 := Tryd.zeroValue20
  t21 := Tryd.underlying21
  a21 := Tryd.isAgg21
  z21 := Tryd.sizeOf21
  v21 := Tryd.zeroValue21
  t37 := Tryd.underlying35
  a37 := Tryd.isAgg35
  z37 := Tryd.sizeOf35
  v37 := Tryd.zeroValue35
  t46 := Tryd.underlying94
  a46 := Tryd.isAgg94
  z46 := Tryd.sizeOf94
  v46 := Tryd.zeroValue94
  t51 := Tryd.underlying130
  a51 := Tryd.isAgg130
  z51 := Tryd.sizeOf130
  v51 := Tryd.zeroValue130
  t53 := Tryd.underlying115
  a53 := Tryd.isAgg115
  z53 := Tryd.sizeOf115
  v53 := Tryd.zeroValue115
  t75 := Tryd.underlying89
  a75 := Tryd.isAgg89
  z75 := Tryd.sizeOf89
  v75 := Tryd.zeroValue89
  t76 := Tryd.underlying90
  a76 := Tryd.isAgg90
  z76 := Tryd.sizeOf90
  v76 := Tryd.zeroValue90
  t85 := Tryd.underlying109
  a85 := Tryd.isAgg109
  z85 := Tryd.sizeOf109
  v85 := Tryd.zeroValue109
  t127 := Tryd.underlying121
  a127 := Tryd.isAgg121
  z127 := Tryd.sizeOf121
  v127 := Tryd.zeroValue121
  t143 := Tryd.underlying138
  a143 := Tryd.isAgg138
  z143 := Tryd.sizeOf138
  v143 := Tryd.zeroValue138
  t145 := Tryd.underlying140
  a145 := Tryd.isAgg140
  z145 := Tryd.sizeOf140
  v145 := Tryd.zeroValue140
  t167 := Tryd.underlying108
  a167 := Tryd.isAgg108
  z167 := Tryd.sizeOf108
  v167 := Tryd.zeroValue108
  t168 := Tryd.underlying111
  a168 := Tryd.isAgg111
  z168 := Tryd.sizeOf111
  v168 := Tryd.zeroValue111
  t171 := Tryd.underlying114
  a171 := Tryd.isAgg114
  z171 := Tryd.sizeOf114
  v171 := Tryd.zeroValue114
  t173 := Tryd.underlying118
  a173 := Tryd.isAgg118
  z173 := Tryd.sizeOf118
  v173 := Tryd.zeroValue118
  t175 := Tryd.underlying122
  a175 := Tryd.isAgg122
  z175 := Tryd.sizeOf122
  v175 := Tryd.zeroValue122
  t210 := Tryd.underlying125
  a210 := Tryd.isAgg125
  z210 := Tryd.sizeOf125
  v210 := Tryd.zeroValue125
  t212 := Tryd.underlying129
  a212 := Tryd.isAgg129
  z212 := Tryd.sizeOf129
  v212 := Tryd.zeroValue129
  t213 := Tryd.underlying131
  a213 := Tryd.isAgg131
  z213 := Tryd.sizeOf131
  t232 := Tryd.underlying142
  a232 := Tryd.isAgg142
  z232 := Tryd.sizeOf142
  v232 := Tryd.zeroValue142
  t233 := Tryd.underlying143
  a233 := Tryd.isAgg143
  z233 := Tryd.sizeOf143
  v233 := Tryd.zeroValue143
  g15 := by kernel_rfl
  g16 := by kernel_rfl
  g17 := by kernel_rfl
  g18 := by kernel_rfl
  g19 := by kernel_rfl
  t80 := Tryd.underlying107
  a80 := Tryd.isAgg107
  z80 := Tryd.sizeOf107
  v80 := Tryd.zeroValue107
  i0 := by kernel_rfl
  i2 := by kernel_rfl
  i3 := by kernel_rfl
  i4 := by kernel_rfl
  i5 := by kernel_rfl
  i9 := by kernel_rfl
  i20 := by kernel_rfl
  i21 := by kernel_rfl
  i37 := by kernel_rfl
  i46 := by kernel_rfl
  i51 := by kernel_rfl
  i53 := by kernel_rfl
  i75 := by kernel_rfl
  i76 := by kernel_rfl
  i80 := by kernel_rfl
  i85 := by kernel_rfl
  i127 := by kernel_rfl
  i143 := by kernel_rfl
  i145 := by kernel_rfl
  i167 := by kernel_rfl
  i168 := by kernel_rfl
  i171 := by kernel_rfl
  i173 := by kernel_rfl
  i175 := by kernel_rfl
  i210 := by kernel_rfl
  i212 := by kernel_rfl
  i232 := by kernel_rfl
  i233 := by kernel_rfl
  m15 := by kernel_rfl
  m16 := by kernel_rfl
  m17 := by kernel_rfl
  m18 := by kernel_rfl
  m19 := by kernel_rfl
  c0 := by kernel_rfl
  c2 := by kernel_rfl
  c3 := by kernel_rfl
  c4 := by kernel_rfl
  c5 := by kernel_rfl
  c9 := by kernel_rfl
  c20 := by kernel_rfl
  c21 := by kernel_rfl
  c37 := by kernel_rfl
  c46 := by kernel_rfl
  c51 := by kernel_rfl
  c53 := by kernel_rfl
  c75 := by kernel_rfl
  c76 := by kernel_rfl
  c80 := by kernel_rfl
  c85 := by kernel_rfl
  c127 := by kernel_rfl
  c143 := by kernel_rfl
  c145 := by kernel_rfl
  c167 := by kernel_rfl
  c168 := by kernel_rfl
  c171 := by kernel_rfl
  c173 := by kernel_rfl
  c175 := by kernel_rfl
  c210 := by kernel_rfl
  c212 := by kernel_rfl
  c213 := by kernel_rfl
  c232 := by kernel_rfl
  c233 := by kernel_rfl
/-- The variable strconv.ErrSyntax holds an error. -/
structure Syn (w : World) : Prop where
  ev : ∃ te pe, w.cell? ⟨0, 0, none⟩ = some (.iface te pe)
structure PowE (w : World) : Prop where
  pow : Pow w
  syn : Syn w
theorem Syn.on {w w' : World} (h : Syn w) (hb : Below w.heap.size w w') : Syn w' := by
  obtain ⟨te, pe, e⟩ := h.ev
  exact ⟨te, pe, pw_cell_below hb e⟩
theorem PowE.on {w w' : World} (h : PowE w) (hb : Below w.heap.size w w') : PowE w' := ⟨h.pow.on hb, h.syn.on hb⟩
theorem Atoi_none (s : ByteArray) (hl : s.size ≤ 18) (h : Lib.atoi s.toList = none) (w : World) (hp : PowE w) : Calls Tryd.prog 70 #[.string s] w fun e w' => ∃ (T : TypeId) (N : Nat), e = .returned (.tuple #[.int .i64 0, .iface T (.pointer (some ⟨N, 0, none⟩))]) ∧ Below w.heap.size w w' := by
  obtain ⟨te, pe, e⟩ := hp.syn.ev
  refine (Any.strconv_Atoi_err laysAtoi s hl (by rw [← tl_eq]; exact h) (.iface te pe) w e (.inr ⟨te, pe, rfl⟩)).mono ?_
  rintro e w' ⟨N, he, _, _, hb⟩
  exact ⟨_, N, he, hb⟩
theorem Atoi_some (s : ByteArray) (hl : s.size ≤ 18) (n : Int) (h : Lib.atoi s.toList = some n) (w : World) : Calls Tryd.prog 70 #[.string s] w fun e w' => e = .returned (.tuple #[.int .i64 n, .nilIface]) ∧ Below w.heap.size w w' := by
  refine (Any.strconv_Atoi { laysAtoi with } s n hl (by rw [← tl_eq]; exact h) w).mono ?_
  rintro e w' ⟨he, t, rfl⟩
  exact ⟨he, bytes_below (Below.refl _ _) (Nat.le_refl _) _ _⟩
end Go.Proofs.YtdpaopfghggiaaaDoor.Shelf
