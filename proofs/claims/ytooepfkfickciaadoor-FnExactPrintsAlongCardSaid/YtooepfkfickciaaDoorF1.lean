/-
  What is proved here: the functions that the law reaches come to the printed functions, and plain facts of these. Conditions: those that each theorem names; none beyond.
-/
import Derived.Test.YtooepfkfickciaaDoorE3
import Derived.Test.YtooepfkfickciaaDoorProg
import Derived.Shelf.Strings.Search3
import Derived.Shelf.Strings.Count
import Derived.Shelf.Strings.OnBuilder
import Derived.Shelf.Strings.SlTrimAscii
/- The types. -/
namespace Ev
open Go Go.Proofs
@[reducible] def I : T := .i .i64
@[reducible] def tDie : T := .pr I (.pr I (.pr I (.pr I (.pr I (.pr I T.un)))))
@[reducible] def tState : T := .pr I (.pr I (.pr tDie T.un))
@[reducible] def tPuzzle : T := .pr T.s (.pr tState (.pr I (.pr I (.pr I T.un))))
@[reducible] def tboGrid : T := .pr I (.pr I (.pr (.sl (.i .u8)) T.un))
@[reducible] def twyNode : T := .pr tState (.pr I (.pr I (.pr I (.pr I (.pr (.ar 4 I) T.un)))))
@[reducible] def treach : T := .pr (.sl tState) (.pr (.sl I) (.pr (.sl (.i .u8)) (.pr (.sl I) (.pr (.mp tState I) T.un))))
def Tryd_tab : Tab := [(2, I, .ot),
  (3, I, .ot),
  (4, T.b, .ot),
  (5, (.i .u8), .ot),
  (9, T.s, .ot),
  (23, tDie, (.st [3, 3, 3, 3, 3, 3])),
  (25, tState, (.st [3, 3, 23])),
  (27, tPuzzle, (.st [9, 25, 3, 3, 3])),
  (29, tDie, (.st [3, 3, 3, 3, 3, 3])),
  (31, tState, (.st [3, 3, 29])),
  (33, tPuzzle, (.st [9, 31, 3, 3, 3])),
  (39, (.sl T.s), (.sl 9)),
  (52, (.sl I), (.sl 3)),
  (64, (.sl (.i .u8)), (.sl 5)),
  (66, tboGrid, (.st [3, 3, 64])),
  (73, (.sl T.s), (.sl 9)),
  (80, (.sl tState), (.sl 31)),
  (95, (.sl twyNode), (.sl 102)),
  (100, (.ar 4 I), (.ar 4 3)),
  (102, twyNode, (.st [31, 3, 3, 3, 3, 100])),
  (104, (.pt treach), .ot),
  (107, (.mp tState I), .ot),
  (109, treach, (.st [80, 52, 64, 52, 107])),
  (116, (.sl T.b), (.sl 4)),
  (138, (.sl (.sl I)), (.sl 52)),
  (142, (.mp (.ar 3 I) T.b), .ot),
  (143, (.ar 3 I), (.ar 3 3)),
  (186, (.ar 24 (.i .u8)), (.ar 24 5)),
  (187, (.i .u64), .ot),
  (201, (.i .u32), .ot),
  (214, (.ar 32 (.i .u8)), (.ar 32 5)),
  (215, (.ar 64 (.i .u8)), (.ar 64 5))]
theorem Tryd_tab_ok : tabOk Tryd.prog Tryd_tab = true := by kernel_rfl
end Ev
/- What the library's functions of strings come to, out of the shelf. -/
namespace Go.Proofs
open Go.Shelf
def Tryd.lays138_ren : Go.Shelf.Ren := ⟨fun | 138 => 160 | 195 => 173 | 218 => 174 | 143 => 161 | 219 => 175 | 217 => 182 | 225 => 183 | 224 => 184 | 267 => 185 | 266 => 188 | 314 => 189 | n => n, fun | 9 => 9 | 3 => 3 | 4 => 4 | 5 => 5 | 0 => 0 | 46 => 203 | 146 => 216 | 51 => 201 | n => n, fun | 1 => 0 | n => n⟩
theorem Tryd.lays138 : Go.Proofs.Lays.n138 Tryd.prog Tryd.lays138_ren := {
  mixed := by kernel_rfl
  f138 := Tryd.func160.trans (congrArg some (by kernel_rfl))
  f143 := Tryd.func161.trans (congrArg some (by kernel_rfl))
  f195 := Tryd.func173.trans (congrArg some (by kernel_rfl))
  f217 := Tryd.func182.trans (congrArg some (by kernel_rfl))
  f218 := Tryd.func174.trans (congrArg some (by kernel_rfl))
  f219 := Tryd.func175.trans (congrArg some (by kernel_rfl))
  f224 := Tryd.func184.trans (congrArg some (by kernel_rfl))
  f225 := Tryd.func183.trans (congrArg some (by kernel_rfl))
  f266 := Tryd.func188.trans (congrArg some (by kernel_rfl))
  f267 := Tryd.func185.trans (congrArg some (by kernel_rfl))
  f314 := Tryd.func189.trans (congrArg some (by kernel_rfl))
  t0 := Tryd.underlying0
  a0 := Tryd.isAgg0
  z0 := Tryd.sizeOf0
  v0 := Tryd.zeroValue0
  t3 := Tryd.underlying3
  a3 := Tryd.isAgg3
  z3 := Tryd.sizeOf3
  v3 := Tryd.zeroValue3
  t4 := Tryd.underlying4
  a4 := Tryd.isAgg4
  z4 := Tryd.sizeOf4
  v4 := Tryd.zeroValue4
  t5 := Tryd.underlying5
  a5 := Tryd.isAgg5
  z5 := Tryd.sizeOf5
  v5 := Tryd.zeroValue5
  t9 := Tryd.underlying9
  a9 := Tryd.isAgg9
  z9 := Tryd.sizeOf9
  v9 := Tryd.zeroValue9
  t46 := Tryd.underlying203
  a46 := Tryd.isAgg203
  z46 := Tryd.sizeOf203
  v46 := Tryd.zeroValue203
  t51 := Tryd.underlying201
  a51 := Tryd.isAgg201
  z51 := Tryd.sizeOf201
  v51 := Tryd.zeroValue201
  t146 := Tryd.underlying216
  a146 := Tryd.isAgg216
  z146 := Tryd.sizeOf216
  v146 := Tryd.zeroValue216
  g1 := by kernel_rfl }
def Tryd.lays143_ren : Go.Shelf.Ren := ⟨fun | 143 => 161 | 219 => 175 | 217 => 182 | 225 => 183 | 224 => 184 | 267 => 185 | 266 => 188 | 314 => 189 | n => n, fun | 9 => 9 | 3 => 3 | 4 => 4 | 5 => 5 | 46 => 203 | 146 => 216 | 51 => 201 | n => n, fun | 1 => 0 | n => n⟩
theorem Tryd.lays143 : Go.Proofs.Lays.n143 Tryd.prog Tryd.lays143_ren := {
  mixed := by kernel_rfl
  f143 := Tryd.func161.trans (congrArg some (by kernel_rfl))
  f217 := Tryd.func182.trans (congrArg some (by kernel_rfl))
  f219 := Tryd.func175.trans (congrArg some (by kernel_rfl))
  f224 := Tryd.func184.trans (congrArg some (by kernel_rfl))
  f225 := Tryd.func183.trans (congrArg some (by kernel_rfl))
  f266 := Tryd.func188.trans (congrArg some (by kernel_rfl))
  f267 := Tryd.func185.trans (congrArg some (by kernel_rfl))
  f314 := Tryd.func189.trans (congrArg some (by kernel_rfl))
  t3 := Tryd.underlying3
  a3 := Tryd.isAgg3
  z3 := Tryd.sizeOf3
  v3 := Tryd.zeroValue3
  t4 := Tryd.underlying4
  a4 := Tryd.isAgg4
  z4 := Tryd.sizeOf4
  v4 := Tryd.zeroValue4
  t5 := Tryd.underlying5
  a5 := Tryd.isAgg5
  z5 := Tryd.sizeOf5
  v5 := Tryd.zeroValue5
  t9 := Tryd.underlying9
  a9 := Tryd.isAgg9
  z9 := Tryd.sizeOf9
  v9 := Tryd.zeroValue9
  t46 := Tryd.underlying203
  a46 := Tryd.isAgg203
  z46 := Tryd.sizeOf203
  v46 := Tryd.zeroValue203
  t51 := Tryd.underlying201
  a51 := Tryd.isAgg201
  z51 := Tryd.sizeOf201
  v51 := Tryd.zeroValue201
  t146 := Tryd.underlying216
  a146 := Tryd.isAgg216
  z146 := Tryd.sizeOf216
  v146 := Tryd.zeroValue216
  g1 := by kernel_rfl }
def Tryd.lays156_ren : Go.Shelf.Ren := ⟨fun | 156 => 77 | 165 => 116 | 166 => 117 | 169 => 118 | 240 => 135 | 241 => 136 | 276 => 153 | 277 => 154 | n => n, fun | 31 => 39 | 9 => 9 | 3 => 3 | 4 => 4 | 0 => 0 | 20 => 20 | 72 => 151 | 76 => 155 | 70 => 149 | 37 => 64 | 75 => 154 | 127 => 168 | 164 => 183 | 5 => 5 | 80 => 89 | n => n, fun | n => n⟩
theorem Tryd.lays156 : Go.Proofs.Lays.n156 Tryd.prog Tryd.lays156_ren := {
  mixed := by kernel_rfl
  f156 := Tryd.func77.trans (congrArg some (by kernel_rfl))
  f165 := Tryd.func116.trans (congrArg some (by kernel_rfl))
  f166 := Tryd.func117.trans (congrArg some (by kernel_rfl))
  f169 := Tryd.func118.trans (congrArg some (by kernel_rfl))
  f240 := Tryd.func135.trans (congrArg some (by kernel_rfl))
  f241 := Tryd.func136.trans (congrArg some (by kernel_rfl))
  f276 := Tryd.func153.trans (congrArg some (by kernel_rfl))
  f277 := Tryd.func154.trans (congrArg some (by kernel_rfl))
  t0 := Tryd.underlying0
  a0 := Tryd.isAgg0
  z0 := Tryd.sizeOf0
  v0 := Tryd.zeroValue0
  t3 := Tryd.underlying3
  a3 := Tryd.isAgg3
  z3 := Tryd.sizeOf3
  v3 := Tryd.zeroValue3
  t4 := Tryd.underlying4
  a4 := Tryd.isAgg4
  z4 := Tryd.sizeOf4
  v4 := Tryd.zeroValue4
  t9 := Tryd.underlying9
  a9 := Tryd.isAgg9
  z9 := Tryd.sizeOf9
  v9 := Tryd.zeroValue9
  t20 := Tryd.underlying20
  a20 := Tryd.isAgg20
  z20 := Tryd.sizeOf20
  v20 := Tryd.zeroValue20
  t31 := Tryd.underlying39
  a31 := Tryd.isAgg39
  z31 := Tryd.sizeOf39
  v31 := Tryd.zeroValue39
  t37 := Tryd.underlying64
  a37 := Tryd.isAgg64
  z37 := Tryd.sizeOf64
  v37 := Tryd.zeroValue64
  t70 := Tryd.underlying149
  a70 := Tryd.isAgg149
  z70 := Tryd.sizeOf149
  v70 := Tryd.zeroValue149
  t72 := Tryd.underlying151
  a72 := Tryd.isAgg151
  z72 := Tryd.sizeOf151
  v72 := Tryd.zeroValue151
  t75 := Tryd.underlying154
  a75 := Tryd.isAgg154
  z75 := Tryd.sizeOf154
  v75 := Tryd.zeroValue154
  t76 := Tryd.underlying155
  a76 := Tryd.isAgg155
  z76 := Tryd.sizeOf155
  v76 := Tryd.zeroValue155
  t127 := Tryd.underlying168
  a127 := Tryd.isAgg168
  z127 := Tryd.sizeOf168
  v127 := Tryd.zeroValue168
  t164 := Tryd.underlying183
  a164 := Tryd.isAgg183
  z164 := Tryd.sizeOf183
  v164 := Tryd.zeroValue183 }
theorem Tryd.Builder_Extra_156 : Builder.Extra Tryd.prog Tryd.lays156_ren := {
  sizeBuilder := by kernel_rfl
  liesBuilder := by kernel_rfl
  t5 := Tryd.underlying5
  a5 := Tryd.isAgg5
  z5 := Tryd.sizeOf5
  v5 := Tryd.zeroValue5
  infoByte := by kernel_rfl
  cellsByte := by kernel_rfl
  sizeByte := by kernel_rfl
  neB5 := by decide }
def Tryd.lays160_ren : Go.Shelf.Ren := ⟨fun | 160 => 123 | 232 => 140 | 231 => 139 | 227 => 141 | 234 => 143 | 233 => 142 | 236 => 145 | 235 => 144 | 228 => 162 | 271 => 165 | 151 => 164 | 197 => 163 | 120 => 178 | 152 => 177 | 260 => 176 | 137 => 186 | 119 => 187 | 224 => 184 | 225 => 183 | 217 => 182 | 266 => 188 | n => n, fun | 9 => 9 | 4 => 4 | 3 => 3 | 5 => 5 | 117 => 174 | 116 => 173 | 0 => 0 | 124 => 177 | 21 => 21 | 105 => 194 | 46 => 203 | 119 => 209 | 139 => 212 | 138 => 211 | n => n, fun | 3 => 2 | 4 => 3 | n => n⟩
theorem Tryd.lays160 : Go.Proofs.Lays.n160 Tryd.prog Tryd.lays160_ren := {
  mixed := by kernel_rfl
  f119 := Tryd.func187.trans (congrArg some (by kernel_rfl))
  f120 := Tryd.func178.trans (congrArg some (by kernel_rfl))
  f137 := Tryd.func186.trans (congrArg some (by kernel_rfl))
  f151 := Tryd.func164.trans (congrArg some (by kernel_rfl))
  f152 := Tryd.func177.trans (congrArg some (by kernel_rfl))
  f160 := Tryd.func123.trans (congrArg some (by kernel_rfl))
  f197 := Tryd.func163.trans (congrArg some (by kernel_rfl))
  f217 := Tryd.func182.trans (congrArg some (by kernel_rfl))
  f224 := Tryd.func184.trans (congrArg some (by kernel_rfl))
  f225 := Tryd.func183.trans (congrArg some (by kernel_rfl))
  f227 := Tryd.func141.trans (congrArg some (by kernel_rfl))
  f228 := Tryd.func162.trans (congrArg some (by kernel_rfl))
  f231 := Tryd.func139.trans (congrArg some (by kernel_rfl))
  f232 := Tryd.func140.trans (congrArg some (by kernel_rfl))
  f233 := Tryd.func142.trans (congrArg some (by kernel_rfl))
  f234 := Tryd.func143.trans (congrArg some (by kernel_rfl))
  f235 := Tryd.func144.trans (congrArg some (by kernel_rfl))
  f236 := Tryd.func145.trans (congrArg some (by kernel_rfl))
  f260 := Tryd.func176.trans (congrArg some (by kernel_rfl))
  f266 := Tryd.func188.trans (congrArg some (by kernel_rfl))
  f271 := Tryd.func165.trans (congrArg some (by kernel_rfl))
  t0 := Tryd.underlying0
  a0 := Tryd.isAgg0
  z0 := Tryd.sizeOf0
  v0 := Tryd.zeroValue0
  t3 := Tryd.underlying3
  a3 := Tryd.isAgg3
  z3 := Tryd.sizeOf3
  v3 := Tryd.zeroValue3
  t4 := Tryd.underlying4
  a4 := Tryd.isAgg4
  z4 := Tryd.sizeOf4
  v4 := Tryd.zeroValue4
  t5 := Tryd.underlying5
  a5 := Tryd.isAgg5
  z5 := Tryd.sizeOf5
  v5 := Tryd.zeroValue5
  t9 := Tryd.underlying9
  a9 := Tryd.isAgg9
  z9 := Tryd.sizeOf9
  v9 := Tryd.zeroValue9
  t21 := Tryd.underlying21
  a21 := Tryd.isAgg21
  z21 := Tryd.sizeOf21
  v21 := Tryd.zeroValue21
  t46 := Tryd.underlying203
  a46 := Tryd.isAgg203
  z46 := Tryd.sizeOf203
  v46 := Tryd.zeroValue203
  t105 := Tryd.underlying194
  a105 := Tryd.isAgg194
  z105 := Tryd.sizeOf194
  v105 := Tryd.zeroValue194
  t116 := Tryd.underlying173
  a116 := Tryd.isAgg173
  z116 := Tryd.sizeOf173
  t117 := Tryd.underlying174
  a117 := Tryd.isAgg174
  z117 := Tryd.sizeOf174
  v117 := Tryd.zeroValue174
  t119 := Tryd.underlying209
  a119 := Tryd.isAgg209
  z119 := Tryd.sizeOf209
  t124 := Tryd.underlying177
  a124 := Tryd.isAgg177
  z124 := Tryd.sizeOf177
  v124 := Tryd.zeroValue177
  t138 := Tryd.underlying211
  a138 := Tryd.isAgg211
  z138 := Tryd.sizeOf211
  v138 := Tryd.zeroValue211
  t139 := Tryd.underlying212
  a139 := Tryd.isAgg212
  z139 := Tryd.sizeOf212
  v139 := Tryd.zeroValue212
  g3 := by kernel_rfl
  g4 := by kernel_rfl }
end Go.Proofs
namespace Ev
open Go Go.Proofs Go.RowKit
def strings_Count (_k : Nat) (s r : List Int) : Option Int := cntF s r
noncomputable def strings_Count_O (_k : Nat) : Orc := cntO
theorem strings_Count_c (k : Nat) : Contract Tryd.prog 160 (strings_Count_O k) :=
  cnt_c ⟨Tryd.f160, Tryd.func160, by kernel_rfl, by kernel_rfl⟩ fun s c w => Any.strings_Count_one Tryd.lays138 s c w
def strings_Index (_k : Nat) (s r : List Int) : Option Int := idxF s r
noncomputable def strings_Index_O (_k : Nat) : Orc := idxO
theorem strings_Index_c (k : Nat) : Contract Tryd.prog 161 (strings_Index_O k) :=
  idx_c ⟨Tryd.f161, Tryd.func161, by kernel_rfl, by kernel_rfl⟩ fun s c w => Any.strings_Index_one Tryd.lays143 s c w
def strings_Trim (_k : Nat) (s r : List Int) : Option (List Int) := trimF s r
noncomputable def strings_Trim_O (_k : Nat) : Orc := trimO
theorem strings_Trim_c (k : Nat) : Contract Tryd.prog 123 (strings_Trim_O k) :=
  trim_c ⟨Tryd.f123, Tryd.func123, by kernel_rfl, by kernel_rfl⟩ fun s cs w h1 h2 h3 => Any.strings_Trim_laid Tryd.lays160 (by kernel_rfl) s cs w h1 h2 h3
def strings_Join (_k : Nat) (xs : List (List Int)) (r : List Int) : Option (List Int) := sjoinF xs r
noncomputable def strings_Join_O (_k : Nat) : Orc := sjoinO
theorem strings_Join_c (k : Nat) : Contract Tryd.prog 77 (strings_Join_O k) :=
  join_c ⟨Tryd.f77, Tryd.func77, by kernel_rfl, by kernel_rfl⟩ (fun a c sep w => Any.strings_Join_none Tryd.lays156 Tryd.Builder_Extra_156 a c sep w)
    fun bk o c xs sep w h1 h2 h3 h4 h5 => Any.strings_Join Tryd.lays156 Tryd.Builder_Extra_156 bk o c xs sep w h1 h2 h3 h4 h5
end Ev
/- A library function. -/
/- A library function. -/
/- strings.genSplit -/
namespace Ev
open Go Go.Proofs
/-! strings.genSplit -/
@[reducible] def strings_genSplit_j17_L : List (Nat × Sh) := [(0, (.v T.s)), (9, (.o 9 T.s)), (10, (.v I))]
@[reducible] def strings_genSplit_l11_L : List (Nat × Sh) := [(0, (.v T.s)), (1, (.v T.s)), (2, (.v I)), (3, (.v I)), (9, (.o 9 T.s)), (10, (.v I))]
@[reducible] def strings_genSplit_j7_L : List (Nat × Sh) := [(0, (.v T.s)), (1, (.v T.s)), (2, (.v I)), (3, (.v I))]
def strings_genSplit_j17s (_k : Nat) (x0 : (List Int)) (x9 : (List (List Int))) (x10 : Int) : Option (List (List Int)) :=
  inb x10 x9.length (
    cut (0 : Int) (IntKind.i64.wrap (x10 + (1 : Int))) ((x9.set (x10).toNat x0).length) (
      some (((x9.set (x10).toNat x0).drop ((0 : Int)).toNat).take ((IntKind.i64.wrap (x10 + (1 : Int))) - (0 : Int)).toNat)))
def strings_genSplit_j17 (k : Nat)  : Nat → (List Int) → (List (List Int)) → Int → Option (List (List Int))
  | 0, _, _, _ => none
  | _ + 1, x0, x9, x10 => strings_genSplit_j17s k x0 x9 x10
def strings_genSplit_l11s (k : Nat) (c_j17 : (List Int) → (List (List Int)) → Int → Option (List (List Int))) (g_l11 : (List Int) → (List Int) → Int → Int → (List (List Int)) → Int → Option (List (List Int))) (x0 : (List Int)) (x1 : (List Int)) (x2 : Int) (x3 : Int) (x9 : (List (List Int))) (x10 : Int) : Option (List (List Int)) :=
  if (decide (x10 < x3)) = true then
    (strings_Index k x0 x1).bind fun r2 =>
    if (decide (r2 < (0 : Int))) = true then
      c_j17 x0 x9 x10
    else
      cut (0 : Int) (IntKind.i64.wrap (r2 + x2)) (x0.length) (
        inb x10 x9.length (
          cut (IntKind.i64.wrap (r2 + (x1.length : Int))) (x0.length : Int) (x0.length) (
            g_l11 ((x0.take ((x0.length : Int)).toNat).drop ((IntKind.i64.wrap (r2 + (x1.length : Int)))).toNat) x1 x2 x3 (x9.set (x10).toNat ((x0.take ((IntKind.i64.wrap (r2 + x2))).toNat).drop ((0 : Int)).toNat)) (IntKind.i64.wrap (x10 + (1 : Int))))))
  else
    c_j17 x0 x9 x10
def strings_genSplit_l11 (k : Nat)  : Nat → (List Int) → (List Int) → Int → Int → (List (List Int)) → Int → Option (List (List Int))
  | 0, _, _, _, _, _, _ => none
  | n + 1, x0, x1, x2, x3, x9, x10 => strings_genSplit_l11s k (strings_genSplit_j17 k k) (strings_genSplit_l11 k n) x0 x1 x2 x3 x9 x10
def strings_genSplit_j7s (_k : Nat) (c_l11 : (List Int) → (List Int) → Int → Int → (List (List Int)) → Int → Option (List (List Int))) (x0 : (List Int)) (x1 : (List Int)) (x2 : Int) (x3 : Int) : Option (List (List Int)) :=
  if (if (IntKind.i64.wrap ((x0.length : Int) + (1 : Int))) < x3 then (IntKind.i64.wrap ((x0.length : Int) + (1 : Int))) else x3) = (if (IntKind.i64.wrap ((x0.length : Int) + (1 : Int))) < x3 then (IntKind.i64.wrap ((x0.length : Int) + (1 : Int))) else x3) then (
    if 0 ≤ (if (IntKind.i64.wrap ((x0.length : Int) + (1 : Int))) < x3 then (IntKind.i64.wrap ((x0.length : Int) + (1 : Int))) else x3) then (
      if (if (IntKind.i64.wrap ((x0.length : Int) + (1 : Int))) < x3 then (IntKind.i64.wrap ((x0.length : Int) + (1 : Int))) else x3) ≤ 17179869184 then (
        c_l11 x0 x1 x2 (IntKind.i64.wrap ((if (IntKind.i64.wrap ((x0.length : Int) + (1 : Int))) < x3 then (IntKind.i64.wrap ((x0.length : Int) + (1 : Int))) else x3) - (1 : Int))) (List.replicate ((if (IntKind.i64.wrap ((x0.length : Int) + (1 : Int))) < x3 then (IntKind.i64.wrap ((x0.length : Int) + (1 : Int))) else x3)).toNat ([] : (List Int))) (0 : Int)) else none) else none) else none
def strings_genSplit_j7 (k : Nat)  : Nat → (List Int) → (List Int) → Int → Int → Option (List (List Int))
  | 0, _, _, _, _ => none
  | _ + 1, x0, x1, x2, x3 => strings_genSplit_j7s k (strings_genSplit_l11 k k) x0 x1 x2 x3
def strings_genSplit_s (k : Nat) (c_j7 : (List Int) → (List Int) → Int → Int → Option (List (List Int))) (x0 : (List Int)) (x1 : (List Int)) (x2 : Int) (x3 : Int) : Option (List (List Int)) :=
  if (decide (x3 = (0 : Int))) = true then
    some ([] : List (List Int))
  else
    if (decide (x1 = ([] : List Int))) = true then
      none
    else
      if (decide (x3 < (0 : Int))) = true then
        (strings_Count k x0 x1).bind fun r1 =>
        c_j7 x0 x1 x2 (IntKind.i64.wrap (r1 + (1 : Int)))
      else
        c_j7 x0 x1 x2 x3
def strings_genSplit (k : Nat) (x0 : (List Int)) (x1 : (List Int)) (x2 : Int) (x3 : Int) : Option (List (List Int)) := strings_genSplit_s k (strings_genSplit_j7 k k) x0 x1 x2 x3
noncomputable def strings_genSplit_O (k : Nat) : Orc := { ps := [.v T.s, .v T.s, .v I, .v I], rt := (.v (.sl T.s)), F := fun x => strings_genSplit k x.1 x.2.1 x.2.2.1 x.2.2.2.1 }
noncomputable def strings_genSplit_E (k : Nat) : Env := { ty := tabTy Tryd_tab, ds := tabDs Tryd_tab, rounds := k, nt := 66, orc := fun g => if Nat.beq g 160 = true then some (strings_Count_O k) else (if Nat.beq g 161 = true then some (strings_Index_O k) else (none)), lp := fun i => if Nat.beq i 11 = true then some strings_genSplit_l11_L else (none), ct := fun i => if Nat.beq i 7 = true then some strings_genSplit_j7_L else (if Nat.beq i 17 = true then some strings_genSplit_j17_L else (none)), plan := fun _ => none }
noncomputable def strings_genSplit_fin (k : Nat) : Kn (List (List Int)) := finish (strings_genSplit_E k) [.v T.s, .v T.s, .v I, .v I] (.v (.sl T.s)) Tryd.f138.results.toList
noncomputable def strings_genSplit_j17_e (k : Nat)  (n : Nat) (x0 : (List Int)) (x9 : (List (List Int))) (x10 : Int) : Option (List (List Int)) := joinF (strings_genSplit_E k) strings_genSplit_j17_L (ev (strings_genSplit_E k) (sub (bodyOf Tryd.f138) [.r, .r, .r, .r, .r, .r, .r, .r, .r])) (kont (strings_genSplit_E k) (bodyOf Tryd.f138) [.r, .r, .r, .r, .r, .r, .r, .r, .r] [] (strings_genSplit_fin k)) n (x0, x9, x10, ())
theorem strings_genSplit_j17_z (k : Nat)  (x0 : (List Int)) (x9 : (List (List Int))) (x10 : Int) : strings_genSplit_j17_e k 0 x0 x9 x10 = none := by kernel_rfl
theorem strings_genSplit_j17_st (k : Nat)  (n : Nat) (x0 : (List Int)) (x9 : (List (List Int))) (x10 : Int) : strings_genSplit_j17_e k (n + 1) x0 x9 x10 = strings_genSplit_j17s k x0 x9 x10 := by kernel_rfl
theorem strings_genSplit_j17_ev (k : Nat)  : ∀ (n : Nat) (x0 : (List Int)) (x9 : (List (List Int))) (x10 : Int), strings_genSplit_j17_e k n x0 x9 x10 = strings_genSplit_j17 k n x0 x9 x10
  | 0, x0, x9, x10 => strings_genSplit_j17_z k x0 x9 x10
  | n + 1, x0, x9, x10 => by
    skip
    rw [strings_genSplit_j17_st]; rfl
noncomputable def strings_genSplit_l11_e (k : Nat)  (n : Nat) (x0 : (List Int)) (x1 : (List Int)) (x2 : Int) (x3 : Int) (x9 : (List (List Int))) (x10 : Int) : Option (List (List Int)) := loopF (strings_genSplit_E k) strings_genSplit_l11_L (ev (strings_genSplit_E k) (sub (bodyOf Tryd.f138) [.r, .r, .r, .r, .r, .r, .r, .r, .l, .c, .c])) (kont (strings_genSplit_E k) (bodyOf Tryd.f138) [.r, .r, .r, .r, .r, .r, .r, .r, .l, .c] [] (strings_genSplit_fin k)) n (x0, x1, x2, x3, x9, x10, ())
theorem strings_genSplit_l11_z (k : Nat)  (x0 : (List Int)) (x1 : (List Int)) (x2 : Int) (x3 : Int) (x9 : (List (List Int))) (x10 : Int) : strings_genSplit_l11_e k 0 x0 x1 x2 x3 x9 x10 = none := by kernel_rfl
theorem strings_genSplit_l11_st (k : Nat)  (n : Nat) (x0 : (List Int)) (x1 : (List Int)) (x2 : Int) (x3 : Int) (x9 : (List (List Int))) (x10 : Int) : strings_genSplit_l11_e k (n + 1) x0 x1 x2 x3 x9 x10 = strings_genSplit_l11s k (strings_genSplit_j17_e k k) (strings_genSplit_l11_e k n) x0 x1 x2 x3 x9 x10 := by kernel_rfl
theorem strings_genSplit_l11_ev (k : Nat)  : ∀ (n : Nat) (x0 : (List Int)) (x1 : (List Int)) (x2 : Int) (x3 : Int) (x9 : (List (List Int))) (x10 : Int), strings_genSplit_l11_e k n x0 x1 x2 x3 x9 x10 = strings_genSplit_l11 k n x0 x1 x2 x3 x9 x10
  | 0, x0, x1, x2, x3, x9, x10 => strings_genSplit_l11_z k x0 x1 x2 x3 x9 x10
  | n + 1, x0, x1, x2, x3, x9, x10 => by
    have h0 : (strings_genSplit_j17_e k k) = (strings_genSplit_j17 k k) := by funext y0 y1 y2; exact strings_genSplit_j17_ev k k y0 y1 y2
    have ih : (strings_genSplit_l11_e k n) = strings_genSplit_l11 k n := by funext y0 y1 y2 y3 y4 y5; exact strings_genSplit_l11_ev k n y0 y1 y2 y3 y4 y5
    rw [strings_genSplit_l11_st, h0, ih]; rfl
noncomputable def strings_genSplit_j7_e (k : Nat)  (n : Nat) (x0 : (List Int)) (x1 : (List Int)) (x2 : Int) (x3 : Int) : Option (List (List Int)) := joinF (strings_genSplit_E k) strings_genSplit_j7_L (ev (strings_genSplit_E k) (sub (bodyOf Tryd.f138) [.r, .r, .r, .r])) (kont (strings_genSplit_E k) (bodyOf Tryd.f138) [.r, .r, .r, .r] [] (strings_genSplit_fin k)) n (x0, x1, x2, x3, ())
theorem strings_genSplit_j7_z (k : Nat)  (x0 : (List Int)) (x1 : (List Int)) (x2 : Int) (x3 : Int) : strings_genSplit_j7_e k 0 x0 x1 x2 x3 = none := by kernel_rfl
theorem strings_genSplit_j7_st (k : Nat)  (n : Nat) (x0 : (List Int)) (x1 : (List Int)) (x2 : Int) (x3 : Int) : strings_genSplit_j7_e k (n + 1) x0 x1 x2 x3 = strings_genSplit_j7s k (strings_genSplit_l11_e k k) x0 x1 x2 x3 := by kernel_rfl
theorem strings_genSplit_j7_ev (k : Nat)  : ∀ (n : Nat) (x0 : (List Int)) (x1 : (List Int)) (x2 : Int) (x3 : Int), strings_genSplit_j7_e k n x0 x1 x2 x3 = strings_genSplit_j7 k n x0 x1 x2 x3
  | 0, x0, x1, x2, x3 => strings_genSplit_j7_z k x0 x1 x2 x3
  | n + 1, x0, x1, x2, x3 => by
    have h0 : (strings_genSplit_l11_e k k) = (strings_genSplit_l11 k k) := by funext y0 y1 y2 y3 y4 y5; exact strings_genSplit_l11_ev k k y0 y1 y2 y3 y4 y5
    rw [strings_genSplit_j7_st, h0]; rfl
theorem strings_genSplit_st (k : Nat) (x0 : (List Int)) (x1 : (List Int)) (x2 : Int) (x3 : Int) : evFun (strings_genSplit_E k) [.v T.s, .v T.s, .v I, .v I] (.v (.sl T.s)) Tryd.f138 (x0, x1, x2, x3, ()) = strings_genSplit_s k (strings_genSplit_j7_e k k) x0 x1 x2 x3 := by kernel_rfl
theorem strings_genSplit_ev (k : Nat) (x0 : (List Int)) (x1 : (List Int)) (x2 : Int) (x3 : Int) : evFun (strings_genSplit_E k) [.v T.s, .v T.s, .v I, .v I] (.v (.sl T.s)) Tryd.f138 (x0, x1, x2, x3, ()) = strings_genSplit k x0 x1 x2 x3 := by
  have h0 : (strings_genSplit_j7_e k k) = (strings_genSplit_j7 k k) := by funext y0 y1 y2 y3; exact strings_genSplit_j7_ev k k y0 y1 y2 y3
  rw [strings_genSplit_st, h0]; rfl
theorem strings_genSplit_c (k : Nat) : Contract Tryd.prog 138 (strings_genSplit_O k) :=
  fun_sound (c := bodyOf Tryd.f138) (tab_ok Tryd_tab_ok rfl rfl) (orc_cons (strings_Count_c k) (orc_cons (strings_Index_c k) orc_nil)) Tryd.func138 (by kernel_rfl) rfl (by kernel_rfl) (by decide) rfl rfl (by kernel_rfl) (by kernel_rfl) (by kernel_rfl) (fun x _ h => (strings_genSplit_ev k x.1 x.2.1 x.2.2.1 x.2.2.2.1).trans h)
end Ev
/- strings.Split -/
namespace Ev
open Go Go.Proofs
/-! strings.Split -/
def strings_Split_s (k : Nat) (x0 : (List Int)) (x1 : (List Int)) : Option (List (List Int)) :=
  (strings_genSplit k x0 x1 (0 : Int) (-1 : Int)).bind fun r1 =>
  some r1
def strings_Split (k : Nat) (x0 : (List Int)) (x1 : (List Int)) : Option (List (List Int)) := strings_Split_s k x0 x1
noncomputable def strings_Split_O (k : Nat) : Orc := { ps := [.v T.s, .v T.s], rt := (.v (.sl T.s)), F := fun x => strings_Split k x.1 x.2.1 }
noncomputable def strings_Split_E (k : Nat) : Env := { ty := tabTy Tryd_tab, ds := tabDs Tryd_tab, rounds := k, nt := 8, orc := fun g => if Nat.beq g 138 = true then some (strings_genSplit_O k) else (none), lp := fun _ => none, ct := fun _ => none, plan := fun _ => none }
noncomputable def strings_Split_fin (k : Nat) : Kn (List (List Int)) := finish (strings_Split_E k) [.v T.s, .v T.s] (.v (.sl T.s)) Tryd.f122.results.toList
theorem strings_Split_st (k : Nat) (x0 : (List Int)) (x1 : (List Int)) : evFun (strings_Split_E k) [.v T.s, .v T.s] (.v (.sl T.s)) Tryd.f122 (x0, x1, ()) = strings_Split_s k x0 x1 := by kernel_rfl
theorem strings_Split_ev (k : Nat) (x0 : (List Int)) (x1 : (List Int)) : evFun (strings_Split_E k) [.v T.s, .v T.s] (.v (.sl T.s)) Tryd.f122 (x0, x1, ()) = strings_Split k x0 x1 := by
  skip
  rw [strings_Split_st]; rfl
theorem strings_Split_c (k : Nat) : Contract Tryd.prog 122 (strings_Split_O k) :=
  fun_sound (c := bodyOf Tryd.f122) (tab_ok Tryd_tab_ok rfl rfl) (orc_cons (strings_genSplit_c k) orc_nil) Tryd.func122 (by kernel_rfl) rfl (by kernel_rfl) (by decide) rfl rfl (by kernel_rfl) (by kernel_rfl) (by kernel_rfl) (fun x _ h => (strings_Split_ev k x.1 x.2.1).trans h)
end Ev
/- Plain laws: rows of a text. -/
namespace Ev
open Go

theorem wr {x : Int} (_h : -9223372036854775808 ≤ x ∧ x < 9223372036854775808) : IntKind.i64.wrap x = x := by rw [IntKind.wrap_i64]; omega
theorem inb_eq {R : Type} {i : Int} {n : Nat} {K : Option R} (h : 0 ≤ i ∧ i < (n : Int)) : inb i n K = K := by
  unfold inb; rw [if_pos h.1, if_pos h.2]
theorem cut_eq {R : Type} {lo hi : Int} {n : Nat} {K : Option R} (h : 0 ≤ lo ∧ lo ≤ hi ∧ hi ≤ (n : Int)) : cut lo hi n K = K := by
  unfold cut; rw [if_pos h.1, if_pos h.2.1, if_pos h.2.2]
theorem take_set_succ {α : Type} (a : α) : ∀ (l : List α) (i : Nat), i < l.length → (l.set i a).take (i + 1) = l.take i ++ [a]
  | [], _, h => by cases h
  | x :: l, 0, _ => by simp
  | x :: l, i + 1, h => by simp [take_set_succ a l i (by simpa using h)]

theorem mulI (a b : Nat) : (a : Int) * (b : Int) = ((a * b : Nat) : Int) := (Int.natCast_mul a b).symm

theorem app_getD (A : List Int) (c : Int) (t : List Int) : (A ++ c :: t).getD A.length 0 = c := by simp [List.getD]
theorem app_set (A : List Int) (c v : Int) (t : List Int) : (A ++ c :: t).set A.length v = A ++ v :: t := by simp

/-- The rows of a text. -/
def spl : List Int → List (List Int)
  | [] => [[]]
  | c :: s => if c = 47 then [] :: spl s else
    match spl s with
    | r :: rs => (c :: r) :: rs
    | [] => [[c]]
theorem spl_ne : ∀ s, spl s ≠ []
  | [] => by simp [spl]
  | c :: s => by
    unfold spl
    split
    · simp
    · split <;> simp
theorem spl_cons {s : List Int} : ∃ r rs, spl s = r :: rs := by
  cases h : spl s with
  | nil => exact absurd h (spl_ne s)
  | cons r rs => exact ⟨r, rs, rfl⟩
theorem spl_len : ∀ s, (spl s).length = cntI s 47 + 1
  | [] => rfl
  | c :: s => by
    have ih := spl_len s
    unfold spl
    by_cases h : c = 47
    · rw [if_pos h, List.length_cons, ih]; simp [cntI, h]
    · rw [if_neg h]
      obtain ⟨r, rs, e⟩ := spl_cons (s := s)
      rw [e] at ih ⊢
      simp only [List.length_cons] at ih ⊢
      rw [ih]; simp [cntI, h]
theorem spl_none : ∀ s, cntI s 47 = 0 → spl s = [s]
  | [], _ => rfl
  | c :: s, h => by
    have h1 : c ≠ 47 := fun e => by simp [cntI, e] at h
    have h2 : cntI s 47 = 0 := by simpa [cntI, h1] using h
    unfold spl
    rw [if_neg h1, spl_none s h2]
theorem idxI_ge : ∀ s c, -1 ≤ idxI s c
  | [], _ => by simp [idxI]
  | x :: s, c => by
    have := idxI_ge s c
    unfold idxI
    split
    · omega
    · split <;> omega
theorem idxI_lt : ∀ s c, idxI s c < s.length
  | [], _ => by simp [idxI]
  | x :: s, c => by
    have := idxI_lt s c
    unfold idxI
    simp only [List.length_cons, Int.natCast_add]
    split
    · omega
    · split <;> omega
theorem spl_idx : ∀ s, cntI s 47 ≠ 0 → 0 ≤ idxI s 47 ∧ spl s = s.take (idxI s 47).toNat :: spl (s.drop ((idxI s 47).toNat + 1)) ∧ cntI (s.drop ((idxI s 47).toNat + 1)) 47 + 1 = cntI s 47
  | [], h => absurd rfl h
  | x :: s, h => by
    by_cases hx : x = 47
    · have e : idxI (x :: s) 47 = 0 := by simp [idxI, hx]
      rw [e]
      refine ⟨by omega, ?_, ?_⟩
      · simp [spl, hx]
      · simp [cntI, hx]
    · have h2 : cntI s 47 ≠ 0 := by simpa [cntI, hx] using h
      obtain ⟨h3, h4, h5⟩ := spl_idx s h2
      have e : idxI (x :: s) 47 = idxI s 47 + 1 := by
        show (if x = 47 then (0 : Int) else if idxI s 47 = -1 then -1 else idxI s 47 + 1) = _
        rw [if_neg hx, if_neg (by omega)]
      have e2 : (idxI s 47 + 1).toNat = (idxI s 47).toNat + 1 := by omega
      rw [e, e2]
      refine ⟨by omega, ?_, ?_⟩
      · show (if x = 47 then [] :: spl s else match spl s with | r :: rs => (x :: r) :: rs | [] => [[x]]) = _
        rw [if_neg hx, h4]
        simp
      · have : cntI (x :: s) 47 = cntI s 47 := by simp [cntI, hx]
        rw [this, ← h5]; simp

theorem split_loop (k : Nat) (hk : 2097152 ≤ k) : ∀ (m n : Nat) (s : List Int) (x9 : List (List Int)) (i : Nat), cntI s 47 = m → x9.length = i + m + 1 → x9.length ≤ 2000000 → s.length ≤ 2000000 → m < n →
    strings_genSplit_l11 k n s [47] 0 ((i + m : Nat) : Int) x9 (i : Int) = some (x9.take i ++ spl s)
  | 0, n + 1, s, x9, i, hm, hl, hl2, hs, _ => by
    obtain ⟨k, rfl⟩ : ∃ j, k = j + 1 := ⟨k - 1, by omega⟩
    show strings_genSplit_l11s (k + 1) _ _ _ _ _ _ _ _ = _
    unfold strings_genSplit_l11s
    rw [if_neg (by simp)]
    show strings_genSplit_j17s (k + 1) _ _ _ = _
    unfold strings_genSplit_j17s
    rw [inb_eq (by omega), wr (by omega), cut_eq (by rw [List.length_set]; omega)]
    have e1 : ((i : Int) + 1 - 0).toNat = i + 1 := by omega
    have e2 : (i : Int).toNat = i := by omega
    rw [e1, e2, spl_none s hm]
    simp [take_set_succ s x9 i (by omega)]
  | m + 1, n + 1, s, x9, i, hm, hl, hl2, hs, hn => by
    show strings_genSplit_l11s k _ _ _ _ _ _ _ _ = _
    unfold strings_genSplit_l11s
    rw [if_pos (by simp; omega)]
    obtain ⟨h0, h1, h2⟩ := spl_idx s (by omega)
    have hlt := idxI_lt s 47
    show (Option.bind (some (idxI s 47)) _) = _
    rw [Option.bind_some, if_neg (by simp; omega), wr (x := idxI s 47 + 0) (by omega), wr (x := idxI s 47 + _) (by simp; omega), wr (by omega), cut_eq (by omega), inb_eq (by omega), cut_eq (by simp; omega)]
    have e1 : ((i + (m + 1) : Nat) : Int) = (((i + 1) + m : Nat) : Int) := by omega
    have e2 : ((i : Int) + 1) = ((i + 1 : Nat) : Int) := by omega
    have e3 : (s.take (s.length : Int).toNat).drop (idxI s 47 + (([47] : List Int).length : Int)).toNat = s.drop ((idxI s 47).toNat + 1) := by
      have : (idxI s 47 + (([47] : List Int).length : Int)).toNat = (idxI s 47).toNat + 1 := by simp; omega
      rw [this]; simp
    have e4 : (s.take (idxI s 47 + 0).toNat).drop (0 : Int).toNat = s.take (idxI s 47).toNat := by simp
    have e5 : (i : Int).toNat = i := by omega
    rw [e1, e2, e3, e4, e5, split_loop k hk m n (s.drop ((idxI s 47).toNat + 1)) _ (i + 1) (by omega) (by rw [List.length_set]; omega) (by rw [List.length_set]; omega) (by rw [List.length_drop]; omega) (by omega)]
    rw [take_set_succ _ _ _ (by omega), h1]
    simp
theorem cntI_le (s : List Int) (c : Int) : cntI s c ≤ s.length := List.length_filter_le _ _
theorem split_is (k : Nat) (hk : 2097152 ≤ k) (s : List Int) (_hs : s.length ≤ 1048576) : strings_Split k s [47] = some (spl s) := by
  obtain ⟨j, rfl⟩ : ∃ j, k = j + 1 := ⟨k - 1, by omega⟩
  have hc := cntI_le s 47
  show (strings_genSplit (j + 1) s [47] 0 (-1)).bind _ = _
  have : strings_genSplit (j + 1) s [47] 0 (-1) = some (spl s) := by
    show strings_genSplit_s (j + 1) _ _ _ _ _ = _
    unfold strings_genSplit_s
    rw [if_neg (by decide), if_neg (by decide), if_pos (by decide)]
    show (Option.bind (some ((cntI s 47 : Nat) : Int)) _) = _
    rw [Option.bind_some, wr (by omega)]
    show strings_genSplit_j7s (j + 1) _ _ _ _ _ = _
    unfold strings_genSplit_j7s
    rw [wr (x := (s.length : Int) + 1) (by omega)]
    have e : (if (s.length : Int) + 1 < (cntI s 47 : Int) + 1 then (s.length : Int) + 1 else (cntI s 47 : Int) + 1) = (cntI s 47 : Int) + 1 := by
      rw [if_neg (by omega)]
    rw [e, if_pos rfl, if_pos (by omega), if_pos (by omega), wr (by omega)]
    have e2 : (cntI s 47 : Int) + 1 - 1 = ((0 + cntI s 47 : Nat) : Int) := by omega
    rw [e2]
    refine (split_loop (j + 1) hk (cntI s 47) (j + 1) s _ 0 rfl ?_ ?_ (by omega) (by omega)).trans ?_
    · simp
    · simp; omega
    · simp
  rw [this]; rfl
end Ev
/- loop.example/g01207/impl.in -/
namespace Ev
open Go Go.Proofs
/-! impl.in -/
def im_in_s (_k : Nat) (x0 : Int) (x1 : Int) (x2 : Int) : Option Bool :=
  if (decide (x1 ≤ x0)) = true then
    some (decide (x0 ≤ x2))
  else
    some false
def im_in (k : Nat) (x0 : Int) (x1 : Int) (x2 : Int) : Option Bool := im_in_s k x0 x1 x2
noncomputable def im_in_O (k : Nat) : Orc := { ps := [.v I, .v I, .v I], rt := (.v T.b), F := fun x => im_in k x.1 x.2.1 x.2.2.1 }
noncomputable def im_in_E (k : Nat) : Env := { ty := tabTy Tryd_tab, ds := tabDs Tryd_tab, rounds := k, nt := 15, orc := fun _ => none, lp := fun _ => none, ct := fun _ => none, plan := fun _ => none }
noncomputable def im_in_fin (k : Nat) : Kn Bool := finish (im_in_E k) [.v I, .v I, .v I] (.v T.b) Tryd.f85.results.toList
theorem im_in_st (k : Nat) (x0 : Int) (x1 : Int) (x2 : Int) : evFun (im_in_E k) [.v I, .v I, .v I] (.v T.b) Tryd.f85 (x0, x1, x2, ()) = im_in_s k x0 x1 x2 := by kernel_rfl
theorem im_in_ev (k : Nat) (x0 : Int) (x1 : Int) (x2 : Int) : evFun (im_in_E k) [.v I, .v I, .v I] (.v T.b) Tryd.f85 (x0, x1, x2, ()) = im_in k x0 x1 x2 := by
  skip
  rw [im_in_st]; rfl
theorem im_in_c (k : Nat) : Contract Tryd.prog 85 (im_in_O k) :=
  fun_sound (c := bodyOf Tryd.f85) (tab_ok Tryd_tab_ok rfl rfl) orc_nil Tryd.func85 (by kernel_rfl) rfl (by kernel_rfl) (by decide) rfl rfl (by kernel_rfl) (by kernel_rfl) (by kernel_rfl) (fun x _ h => (im_in_ev k x.1 x.2.1 x.2.2.1).trans h)
end Ev
/- A library function. -/
/- loop.example/g01207/impl.rowsOf -/
namespace Ev
open Go Go.Proofs
/-! impl.rowsOf -/
@[reducible] def im_rowsOf_l4_L : List (Nat × Sh) := [(1, (.v T.s)), (6, (.v (.sl T.s))), (7, (.v I)), (16, (.v (.sl T.s))), (17, (.v I)), (18, (.v I))]
def im_rowsOf_l4s (k : Nat) (g_l4 : (List Int) → (List (List Int)) → Int → (List (List Int)) → Int → Int → Option ((List (List Int)) × (Bool × Unit))) (x1 : (List Int)) (x6 : (List (List Int))) (x7 : Int) (x16 : (List (List Int))) (x17 : Int) (x18 : Int) : Option ((List (List Int)) × (Bool × Unit)) :=
  if (decide (x18 < x17)) = true then
    inb x18 x16.length (
      if (!decide (((rdT T.s x16 x18).length : Int) = x7)) = true then
        some (([] : List (List Int)), false, ())
      else
        (strings_Trim k (rdT T.s x16 x18) x1).bind fun r2 =>
        if (!decide (r2 = ([] : List Int))) = true then
          some (([] : List (List Int)), false, ())
        else
          g_l4 x1 x6 x7 x16 x17 (IntKind.i64.wrap (x18 + (1 : Int))))
  else
    (im_in k (x6.length : Int) (1 : Int) (7 : Int)).bind fun r3 =>
    if r3 = true then
      (im_in k x7 (1 : Int) (7 : Int)).bind fun r4 =>
      if r4 = true then
        some (x6, (decide ((IntKind.i64.wrap (x7 * (x6.length : Int))) ≤ (36 : Int))), ())
      else
        some (x6, false, ())
    else
      some (x6, false, ())
def im_rowsOf_l4 (k : Nat)  : Nat → (List Int) → (List (List Int)) → Int → (List (List Int)) → Int → Int → Option ((List (List Int)) × (Bool × Unit))
  | 0, _, _, _, _, _, _ => none
  | n + 1, x1, x6, x7, x16, x17, x18 => im_rowsOf_l4s k (im_rowsOf_l4 k n) x1 x6 x7 x16 x17 x18
def im_rowsOf_s (k : Nat) (c_l4 : (List Int) → (List (List Int)) → Int → (List (List Int)) → Int → Int → Option ((List (List Int)) × (Bool × Unit))) (x0 : (List Int)) (x1 : (List Int)) : Option ((List (List Int)) × (Bool × Unit)) :=
  (strings_Split k x0 ([47] : List Int)).bind fun r1 =>
  inb (0 : Int) r1.length (
    c_l4 x1 r1 ((rdT T.s r1 (0 : Int)).length : Int) r1 (r1.length : Int) (0 : Int))
def im_rowsOf (k : Nat) (x0 : (List Int)) (x1 : (List Int)) : Option ((List (List Int)) × (Bool × Unit)) := im_rowsOf_s k (im_rowsOf_l4 k k) x0 x1
noncomputable def im_rowsOf_O (k : Nat) : Orc := { ps := [.v T.s, .v T.s], rt := (.pr (.v (.sl T.s)) (.pr (.v T.b) .un)), F := fun x => im_rowsOf k x.1 x.2.1 }
noncomputable def im_rowsOf_E (k : Nat) : Env := { ty := tabTy Tryd_tab, ds := tabDs Tryd_tab, rounds := k, nt := 48, orc := fun g => if Nat.beq g 85 = true then some (im_in_O k) else (if Nat.beq g 122 = true then some (strings_Split_O k) else (if Nat.beq g 123 = true then some (strings_Trim_O k) else (none))), lp := fun i => if Nat.beq i 4 = true then some im_rowsOf_l4_L else (none), ct := fun _ => none, plan := fun _ => none }
noncomputable def im_rowsOf_fin (k : Nat) : Kn ((List (List Int)) × (Bool × Unit)) := finish (im_rowsOf_E k) [.v T.s, .v T.s] (.pr (.v (.sl T.s)) (.pr (.v T.b) .un)) Tryd.f91.results.toList
noncomputable def im_rowsOf_l4_e (k : Nat)  (n : Nat) (x1 : (List Int)) (x6 : (List (List Int))) (x7 : Int) (x16 : (List (List Int))) (x17 : Int) (x18 : Int) : Option ((List (List Int)) × (Bool × Unit)) := loopF (im_rowsOf_E k) im_rowsOf_l4_L (ev (im_rowsOf_E k) (sub (bodyOf Tryd.f91) [.r, .r, .r, .l, .r, .c, .c])) (kont (im_rowsOf_E k) (bodyOf Tryd.f91) [.r, .r, .r, .l, .r, .c] [] (im_rowsOf_fin k)) n (x1, x6, x7, x16, x17, x18, ())
theorem im_rowsOf_l4_z (k : Nat)  (x1 : (List Int)) (x6 : (List (List Int))) (x7 : Int) (x16 : (List (List Int))) (x17 : Int) (x18 : Int) : im_rowsOf_l4_e k 0 x1 x6 x7 x16 x17 x18 = none := by kernel_rfl
theorem im_rowsOf_l4_st (k : Nat)  (n : Nat) (x1 : (List Int)) (x6 : (List (List Int))) (x7 : Int) (x16 : (List (List Int))) (x17 : Int) (x18 : Int) : im_rowsOf_l4_e k (n + 1) x1 x6 x7 x16 x17 x18 = im_rowsOf_l4s k (im_rowsOf_l4_e k n) x1 x6 x7 x16 x17 x18 := by kernel_rfl
theorem im_rowsOf_l4_ev (k : Nat)  : ∀ (n : Nat) (x1 : (List Int)) (x6 : (List (List Int))) (x7 : Int) (x16 : (List (List Int))) (x17 : Int) (x18 : Int), im_rowsOf_l4_e k n x1 x6 x7 x16 x17 x18 = im_rowsOf_l4 k n x1 x6 x7 x16 x17 x18
  | 0, x1, x6, x7, x16, x17, x18 => im_rowsOf_l4_z k x1 x6 x7 x16 x17 x18
  | n + 1, x1, x6, x7, x16, x17, x18 => by
    have ih : (im_rowsOf_l4_e k n) = im_rowsOf_l4 k n := by funext y0 y1 y2 y3 y4 y5; exact im_rowsOf_l4_ev k n y0 y1 y2 y3 y4 y5
    rw [im_rowsOf_l4_st, ih]; rfl
theorem im_rowsOf_st (k : Nat) (x0 : (List Int)) (x1 : (List Int)) : evFun (im_rowsOf_E k) [.v T.s, .v T.s] (.pr (.v (.sl T.s)) (.pr (.v T.b) .un)) Tryd.f91 (x0, x1, ()) = im_rowsOf_s k (im_rowsOf_l4_e k k) x0 x1 := by kernel_rfl
theorem im_rowsOf_ev (k : Nat) (x0 : (List Int)) (x1 : (List Int)) : evFun (im_rowsOf_E k) [.v T.s, .v T.s] (.pr (.v (.sl T.s)) (.pr (.v T.b) .un)) Tryd.f91 (x0, x1, ()) = im_rowsOf k x0 x1 := by
  have h0 : (im_rowsOf_l4_e k k) = (im_rowsOf_l4 k k) := by funext y0 y1 y2 y3 y4 y5; exact im_rowsOf_l4_ev k k y0 y1 y2 y3 y4 y5
  rw [im_rowsOf_st, h0]; rfl
theorem im_rowsOf_c (k : Nat) : Contract Tryd.prog 91 (im_rowsOf_O k) :=
  fun_sound (c := bodyOf Tryd.f91) (tab_ok Tryd_tab_ok rfl rfl) (orc_cons (im_in_c k) (orc_cons (strings_Split_c k) (orc_cons (strings_Trim_c k) orc_nil))) Tryd.func91 (by kernel_rfl) rfl (by kernel_rfl) (by decide) rfl rfl (by kernel_rfl) (by kernel_rfl) (by kernel_rfl) (fun x _ h => (im_rowsOf_ev k x.1 x.2.1).trans h)
end Ev
/- loop.example/g01207/spec.l1In -/
namespace Ev
open Go Go.Proofs
/-! spec.l1In -/
def sp_l1In_s (_k : Nat) (x0 : Int) (x1 : Int) (x2 : Int) : Option Bool :=
  if (decide (x1 ≤ x0)) = true then
    some (decide (x0 ≤ x2))
  else
    some false
def sp_l1In (k : Nat) (x0 : Int) (x1 : Int) (x2 : Int) : Option Bool := sp_l1In_s k x0 x1 x2
noncomputable def sp_l1In_O (k : Nat) : Orc := { ps := [.v I, .v I, .v I], rt := (.v T.b), F := fun x => sp_l1In k x.1 x.2.1 x.2.2.1 }
noncomputable def sp_l1In_E (k : Nat) : Env := { ty := tabTy Tryd_tab, ds := tabDs Tryd_tab, rounds := k, nt := 15, orc := fun _ => none, lp := fun _ => none, ct := fun _ => none, plan := fun _ => none }
noncomputable def sp_l1In_fin (k : Nat) : Kn Bool := finish (sp_l1In_E k) [.v I, .v I, .v I] (.v T.b) Tryd.f82.results.toList
theorem sp_l1In_st (k : Nat) (x0 : Int) (x1 : Int) (x2 : Int) : evFun (sp_l1In_E k) [.v I, .v I, .v I] (.v T.b) Tryd.f82 (x0, x1, x2, ()) = sp_l1In_s k x0 x1 x2 := by kernel_rfl
theorem sp_l1In_ev (k : Nat) (x0 : Int) (x1 : Int) (x2 : Int) : evFun (sp_l1In_E k) [.v I, .v I, .v I] (.v T.b) Tryd.f82 (x0, x1, x2, ()) = sp_l1In k x0 x1 x2 := by
  skip
  rw [sp_l1In_st]; rfl
theorem sp_l1In_c (k : Nat) : Contract Tryd.prog 82 (sp_l1In_O k) :=
  fun_sound (c := bodyOf Tryd.f82) (tab_ok Tryd_tab_ok rfl rfl) orc_nil Tryd.func82 (by kernel_rfl) rfl (by kernel_rfl) (by decide) rfl rfl (by kernel_rfl) (by kernel_rfl) (by kernel_rfl) (fun x _ h => (sp_l1In_ev k x.1 x.2.1 x.2.2.1).trans h)
end Ev
/- loop.example/g01207/spec.boRead -/
namespace Ev
open Go Go.Proofs
/-! spec.boRead -/
@[reducible] def sp_boRead_l6_L : List (Nat × Sh) := [(0, (.v T.s)), (2, (.bx 66 (.pr (.v I) (.pr (.v I) (.pr (.o 5 (.i .u8)) .un))))), (4, (.bx 66 (.pr (.v I) (.pr (.v I) (.pr (.o 5 (.i .u8)) .un))))), (5, (.v I)), (6, (.v I))]
def sp_boRead_l6s (_k : Nat) (g_l6 : (List Int) → (Int × (Int × ((List Int) × Unit))) → (Int × (Int × ((List Int) × Unit))) → Int → Int → Option (tboGrid.in × (Bool × Unit))) (x0 : (List Int)) (x2 : (Int × (Int × ((List Int) × Unit)))) (x4 : (Int × (Int × ((List Int) × Unit)))) (x5 : Int) (x6 : Int) : Option (tboGrid.in × (Bool × Unit)) :=
  if (decide (x6 ≤ (x0.length : Int))) = true then
    if (decide (x6 < (x0.length : Int))) = true then
      inb x6 x0.length (
        if (!decide ((x0.getD (x6).toNat 0) = (47 : Int))) = true then
          inb x6 x0.length (
            if (!decide ((x0.getD (x6).toNat 0) = (46 : Int))) = true then
              inb x6 x0.length (
                if (!decide ((x0.getD (x6).toNat 0) = (35 : Int))) = true then
                  some (((0 : Int), (0 : Int), ([] : List Int), ()), false, ())
                else
                  inb x6 x0.length (
                    if x4.2.2.1.length + ([(x0.getD (x6).toNat 0)] : List Int).length ≤ 17179869184 then (
                      g_l6 x0 (x2.1, x2.2.1, x2.2.2.1, ()) (x4.1, x4.2.1, (x4.2.2.1 ++ ([(x0.getD (x6).toNat 0)] : List Int)), ()) (IntKind.i64.wrap (x5 + (1 : Int))) (IntKind.i64.wrap (x6 + (1 : Int)))) else none))
            else
              inb x6 x0.length (
                if x4.2.2.1.length + ([(x0.getD (x6).toNat 0)] : List Int).length ≤ 17179869184 then (
                  g_l6 x0 (x2.1, x2.2.1, x2.2.2.1, ()) (x4.1, x4.2.1, (x4.2.2.1 ++ ([(x0.getD (x6).toNat 0)] : List Int)), ()) (IntKind.i64.wrap (x5 + (1 : Int))) (IntKind.i64.wrap (x6 + (1 : Int)))) else none))
        else
          if (decide ((0 : Int) < x4.2.1)) = true then
            if (!decide (x5 = x4.1)) = true then
              some (((0 : Int), (0 : Int), ([] : List Int), ()), false, ())
            else
              if (decide (x5 = (0 : Int))) = true then
                some (((0 : Int), (0 : Int), ([] : List Int), ()), false, ())
              else
                g_l6 x0 (x2.1, x2.2.1, x2.2.2.1, ()) (x5, (IntKind.i64.wrap (x4.2.1 + (1 : Int))), x4.2.2.1, ()) (0 : Int) (IntKind.i64.wrap (x6 + (1 : Int)))
          else
            if (decide (x5 = (0 : Int))) = true then
              some (((0 : Int), (0 : Int), ([] : List Int), ()), false, ())
            else
              g_l6 x0 (x2.1, x2.2.1, x2.2.2.1, ()) (x5, (IntKind.i64.wrap (x4.2.1 + (1 : Int))), x4.2.2.1, ()) (0 : Int) (IntKind.i64.wrap (x6 + (1 : Int))))
    else
      if (decide ((0 : Int) < x4.2.1)) = true then
        if (!decide (x5 = x4.1)) = true then
          some (((0 : Int), (0 : Int), ([] : List Int), ()), false, ())
        else
          if (decide (x5 = (0 : Int))) = true then
            some (((0 : Int), (0 : Int), ([] : List Int), ()), false, ())
          else
            g_l6 x0 (x2.1, x2.2.1, x2.2.2.1, ()) (x5, (IntKind.i64.wrap (x4.2.1 + (1 : Int))), x4.2.2.1, ()) (0 : Int) (IntKind.i64.wrap (x6 + (1 : Int)))
      else
        if (decide (x5 = (0 : Int))) = true then
          some (((0 : Int), (0 : Int), ([] : List Int), ()), false, ())
        else
          g_l6 x0 (x2.1, x2.2.1, x2.2.2.1, ()) (x5, (IntKind.i64.wrap (x4.2.1 + (1 : Int))), x4.2.2.1, ()) (0 : Int) (IntKind.i64.wrap (x6 + (1 : Int)))
  else
    if (decide ((7 : Int) < x4.1)) = true then
      some (((0 : Int), (0 : Int), ([] : List Int), ()), false, ())
    else
      if (decide ((7 : Int) < x4.2.1)) = true then
        some (((0 : Int), (0 : Int), ([] : List Int), ()), false, ())
      else
        if (decide ((36 : Int) < (x4.2.2.1.length : Int))) = true then
          some (((0 : Int), (0 : Int), ([] : List Int), ()), false, ())
        else
          some ((x4.1, x4.2.1, x4.2.2.1, ()), true, ())
def sp_boRead_l6 (k : Nat)  : Nat → (List Int) → (Int × (Int × ((List Int) × Unit))) → (Int × (Int × ((List Int) × Unit))) → Int → Int → Option (tboGrid.in × (Bool × Unit))
  | 0, _, _, _, _, _ => none
  | n + 1, x0, x2, x4, x5, x6 => sp_boRead_l6s k (sp_boRead_l6 k n) x0 x2 x4 x5 x6
def sp_boRead_s (_k : Nat) (c_l6 : (List Int) → (Int × (Int × ((List Int) × Unit))) → (Int × (Int × ((List Int) × Unit))) → Int → Int → Option (tboGrid.in × (Bool × Unit))) (x0 : (List Int)) : Option (tboGrid.in × (Bool × Unit)) :=
  if (decide ((42 : Int) < (x0.length : Int))) = true then
    some (((0 : Int), (0 : Int), ([] : List Int), ()), false, ())
  else
    c_l6 x0 ((0 : Int), (0 : Int), ([] : List Int), ()) ((0 : Int), (0 : Int), ([] : List Int), ()) (0 : Int) (0 : Int)
def sp_boRead (k : Nat) (x0 : (List Int)) : Option (tboGrid.in × (Bool × Unit)) := sp_boRead_s k (sp_boRead_l6 k k) x0
noncomputable def sp_boRead_O (k : Nat) : Orc := { ps := [.v T.s], rt := (.pr (.v tboGrid) (.pr (.v T.b) .un)), F := fun x => sp_boRead k x.1 }
noncomputable def sp_boRead_E (k : Nat) : Env := { ty := tabTy Tryd_tab, ds := tabDs Tryd_tab, rounds := k, nt := 85, orc := fun _ => none, lp := fun i => if Nat.beq i 6 = true then some sp_boRead_l6_L else (none), ct := fun _ => none, plan := fun i => if Nat.beq i 11 = true then some [(0, []), (1, []), (2, []), (3, []), (4, []), (5, []), (6, []), (7, []), (8, [])] else (none) }
noncomputable def sp_boRead_fin (k : Nat) : Kn (tboGrid.in × (Bool × Unit)) := finish (sp_boRead_E k) [.v T.s] (.pr (.v tboGrid) (.pr (.v T.b) .un)) Tryd.f44.results.toList
noncomputable def sp_boRead_l6_e (k : Nat)  (n : Nat) (x0 : (List Int)) (x2 : (Int × (Int × ((List Int) × Unit)))) (x4 : (Int × (Int × ((List Int) × Unit)))) (x5 : Int) (x6 : Int) : Option (tboGrid.in × (Bool × Unit)) := loopF (sp_boRead_E k) sp_boRead_l6_L (ev (sp_boRead_E k) (sub (bodyOf Tryd.f44) [.r, .r, .r, .r, .l, .r, .c, .c])) (kont (sp_boRead_E k) (bodyOf Tryd.f44) [.r, .r, .r, .r, .l, .r, .c] [] (sp_boRead_fin k)) n (x0, x2, x4, x5, x6, ())
theorem sp_boRead_l6_z (k : Nat)  (x0 : (List Int)) (x2 : (Int × (Int × ((List Int) × Unit)))) (x4 : (Int × (Int × ((List Int) × Unit)))) (x5 : Int) (x6 : Int) : sp_boRead_l6_e k 0 x0 x2 x4 x5 x6 = none := by kernel_rfl
theorem sp_boRead_l6_st (k : Nat)  (n : Nat) (x0 : (List Int)) (x2 : (Int × (Int × ((List Int) × Unit)))) (x4 : (Int × (Int × ((List Int) × Unit)))) (x5 : Int) (x6 : Int) : sp_boRead_l6_e k (n + 1) x0 x2 x4 x5 x6 = sp_boRead_l6s k (sp_boRead_l6_e k n) x0 x2 x4 x5 x6 := by kernel_rfl
theorem sp_boRead_l6_ev (k : Nat)  : ∀ (n : Nat) (x0 : (List Int)) (x2 : (Int × (Int × ((List Int) × Unit)))) (x4 : (Int × (Int × ((List Int) × Unit)))) (x5 : Int) (x6 : Int), sp_boRead_l6_e k n x0 x2 x4 x5 x6 = sp_boRead_l6 k n x0 x2 x4 x5 x6
  | 0, x0, x2, x4, x5, x6 => sp_boRead_l6_z k x0 x2 x4 x5 x6
  | n + 1, x0, x2, x4, x5, x6 => by
    have ih : (sp_boRead_l6_e k n) = sp_boRead_l6 k n := by funext y0 y1 y2 y3 y4; exact sp_boRead_l6_ev k n y0 y1 y2 y3 y4
    rw [sp_boRead_l6_st, ih]; rfl
theorem sp_boRead_st (k : Nat) (x0 : (List Int)) : evFun (sp_boRead_E k) [.v T.s] (.pr (.v tboGrid) (.pr (.v T.b) .un)) Tryd.f44 (x0, ()) = sp_boRead_s k (sp_boRead_l6_e k k) x0 := by kernel_rfl
theorem sp_boRead_ev (k : Nat) (x0 : (List Int)) : evFun (sp_boRead_E k) [.v T.s] (.pr (.v tboGrid) (.pr (.v T.b) .un)) Tryd.f44 (x0, ()) = sp_boRead k x0 := by
  have h0 : (sp_boRead_l6_e k k) = (sp_boRead_l6 k k) := by funext y0 y1 y2 y3 y4; exact sp_boRead_l6_ev k k y0 y1 y2 y3 y4
  rw [sp_boRead_st, h0]; rfl
theorem sp_boRead_c (k : Nat) : Contract Tryd.prog 44 (sp_boRead_O k) :=
  fun_sound (c := bodyOf Tryd.f44) (tab_ok Tryd_tab_ok rfl rfl) orc_nil Tryd.func44 (by kernel_rfl) rfl (by kernel_rfl) (by decide) rfl rfl (by kernel_rfl) (by kernel_rfl) (by kernel_rfl) (fun x _ h => (sp_boRead_ev k x.1).trans h)
end Ev
/- Plain laws: texts of rows that are boards, as both sides read them. -/
namespace Ev
open Go

theorem ifc {α : Type} {p q : Prop} [Decidable p] [Decidable q] (h : p ↔ q) (a b : α) : (if p then a else b) = if q then a else b := by
  by_cases hp : p
  · rw [if_pos hp, if_pos (h.1 hp)]
  · rw [if_neg hp, if_neg (fun hq => hp (h.2 hq))]
theorem gd {α : Type} (l : List α) (j : Nat) (z : α) (h : j < l.length) : l.getD j z = l[j] := by simp [List.getD, h]
theorem dropWhile_nil {p : Int → Bool} : ∀ l : List Int, l.dropWhile p = [] ↔ ∀ x ∈ l, p x = true
  | [] => by simp
  | x :: l => by
    by_cases h : p x = true
    · rw [List.dropWhile_cons_of_pos h, dropWhile_nil l]; simp [h]
    · rw [List.dropWhile_cons_of_neg h]; simp [h]
theorem dropWhile_or {p : Int → Bool} : ∀ l : List Int, l.dropWhile p = [] ∨ ∃ x ∈ l.dropWhile p, p x = false
  | [] => .inl rfl
  | x :: l => by
    by_cases h : p x = true
    · rw [List.dropWhile_cons_of_pos h]; exact dropWhile_or l
    · rw [List.dropWhile_cons_of_neg h]; exact .inr ⟨x, List.mem_cons_self, by simpa using h⟩
theorem trimI_nil (r cs : List Int) : trimI r cs = [] ↔ ∀ c ∈ r, c ∈ cs := by
  unfold trimI
  rw [dropWhile_nil]
  constructor
  · intro h
    rcases dropWhile_or (p := (cs.contains ·)) r.reverse with e | ⟨x, hx, hp⟩
    · rw [dropWhile_nil] at e
      intro c hc
      simpa using e c (by simpa using hc)
    · have := h x (by simpa using hx)
      rw [hp] at this; cases this
  · intro h x hx
    have : x ∈ r.reverse := (List.dropWhile_suffix _).subset (by simpa using hx)
    simpa using h x (by simpa using this)

/-- A text is one of rows of some cells, of the right size. -/
structure Bd (cs s : List Int) (w h : Nat) : Prop where
  len : (spl s).length = h
  row : ∀ r ∈ spl s, r.length = w ∧ ∀ c ∈ r, c ∈ cs
  w1 : 1 ≤ w
  w7 : w ≤ 7
  h1 : 1 ≤ h
  h7 : h ≤ 7
  wh : w * h ≤ 36
theorem im_in_is (k : Nat) (x a b : Int) : im_in k x a b = some (decide (a ≤ x ∧ x ≤ b)) := by
  show (if decide (a ≤ x) = true then some (decide (x ≤ b)) else some false) = _
  by_cases h : a ≤ x <;> simp [h]
theorem sp_l1In_is (k : Nat) (x a b : Int) : sp_l1In k x a b = some (decide (a ≤ x ∧ x ≤ b)) := by
  show (if decide (a ≤ x) = true then some (decide (x ≤ b)) else some false) = _
  by_cases h : a ≤ x <;> simp [h]

theorem getD_drop {α : Type} (l : List α) (j : Nat) (z : α) (h : j < l.length) : l.drop j = l.getD j z :: l.drop (j + 1) := by
  rw [List.drop_eq_getElem_cons h]; simp [List.getD, h]
theorem rows_loop (k : Nat) (cs : List Int) (hcs : (cs.all fun c => decide (c < 128)) = true) (hcl : cs.length ≤ 1000) (g : List (List Int)) (w : Nat) (hg : ∀ r ∈ g, r.length ≤ 1048576) (hgl : g.length ≤ 2000000) : ∀ (d n j : Nat), g.length = j + d → d < n →
    im_rowsOf_l4 k n cs g w g (g.length : Int) (j : Int) =
      if ∀ r ∈ g.drop j, r.length = w ∧ ∀ c ∈ r, c ∈ cs then some (g, decide ((1 ≤ g.length ∧ g.length ≤ 7) ∧ (1 ≤ w ∧ w ≤ 7) ∧ w * g.length ≤ 36), ()) else some ([], false, ())
  | 0, n + 1, j, h, _ => by
    show im_rowsOf_l4s k _ _ _ _ _ _ _ = _
    unfold im_rowsOf_l4s
    rw [if_neg (by simp; omega), if_pos (by rw [List.drop_of_length_le (by omega)]; simp), im_in_is, im_in_is, Option.bind_some]
    by_cases h1 : 1 ≤ g.length ∧ g.length ≤ 7
    · rw [if_pos (by simp; omega), Option.bind_some]
      by_cases h2 : 1 ≤ w ∧ w ≤ 7
      · rw [if_pos (by simp; omega)]
        have hb : w * g.length ≤ 7 * 7 := Nat.mul_le_mul h2.2 h1.2
        have hm : (w : Int) * (g.length : Int) = ((w * g.length : Nat) : Int) := by simp
        rw [hm, wr (by omega)]
        congr 3
        by_cases h3 : w * g.length ≤ 36 <;> simp only [h1, h2, h3, and_self, decide_true, decide_false, and_false] <;> simp <;> omega
      · rw [if_neg (by simp; omega)]
        simp [h2]
    · rw [if_neg (by simp; omega)]
      simp [h1]
  | d + 1, n + 1, j, h, hn => by
    show im_rowsOf_l4s k _ _ _ _ _ _ _ = _
    unfold im_rowsOf_l4s
    rw [if_pos (by simp; omega), inb_eq (by omega)]
    have hj : j < g.length := by omega
    have e1 : rdT T.s g (j : Int) = g.getD j [] := rfl
    have hd := getD_drop g j [] hj
    have hmem : g.getD j [] ∈ g := by rw [gd _ _ _ hj]; exact List.getElem_mem hj
    rw [e1, wr (by omega), hd]
    by_cases hw : (g.getD j []).length = w
    · rw [if_neg (by rw [hw]; simp)]
      have e2 : strings_Trim k (g.getD j []) cs = some (trimI (g.getD j []) cs) := by
        show trimF _ _ = _
        unfold trimF
        rw [if_pos hcs, if_pos hcl, if_pos (by have := hg _ hmem; omega)]
      rw [e2, Option.bind_some]
      by_cases ht : ∀ c ∈ g.getD j [], c ∈ cs
      · rw [if_neg (by simp only [(trimI_nil _ _).2 ht]; decide)]
        have := rows_loop k cs hcs hcl g w hg hgl d n (j + 1) (by omega) (by omega)
        rw [Int.natCast_add] at this
        rw [show ((j : Int) + 1) = (j : Int) + ((1 : Nat) : Int) from rfl, this]
        refine ifc ⟨fun q r hr => ?_, fun q r hr => q r (List.mem_cons_of_mem _ hr)⟩ _ _
        rcases List.mem_cons.1 hr with rfl | hr
        · exact ⟨hw, ht⟩
        · exact q r hr
      · rw [if_pos (by simp only [trimI_nil]; simpa using ht), if_neg (fun q => ht (q _ List.mem_cons_self).2)]
    · rw [if_pos (by simp only [Bool.not_eq_true', decide_eq_false_iff_not]; omega), if_neg (fun q => hw (q _ List.mem_cons_self).1)]
theorem spl_rows : ∀ s, ∀ r ∈ spl s, r.length ≤ s.length
  | [], r, h => by simp [spl] at h; simp [h]
  | c :: s, r, h => by
    have ih := spl_rows s
    unfold spl at h
    split at h
    · rcases List.mem_cons.1 h with rfl | h
      · simp
      · have := ih r h; simp; omega
    · obtain ⟨r1, rs, e⟩ := spl_cons (s := s)
      rw [e] at h ih
      rcases List.mem_cons.1 h with rfl | h
      · have := ih r1 List.mem_cons_self; simp; omega
      · have := ih r (List.mem_cons_of_mem _ h); simp; omega
theorem rowsOf_is (k : Nat) (hk : 2097152 ≤ k) (s cs : List Int) (hs : s.length ≤ 1048576) (hcs : (cs.all fun c => decide (c < 128)) = true) (hcl : cs.length ≤ 1000) :
    (∃ w h, Bd cs s w h ∧ im_rowsOf k s cs = some (spl s, true, ())) ∨ ((¬ ∃ w h, Bd cs s w h) ∧ ∃ g, im_rowsOf k s cs = some (g, false, ())) := by
  obtain ⟨r, rs, e⟩ := spl_cons (s := s)
  have hl : (spl s).length ≤ 2000000 := by have := spl_len s; have := cntI_le s 47; omega
  have h0 : 0 < (spl s).length := by rw [e]; simp
  have hm : im_rowsOf k s cs = im_rowsOf_l4 k k cs (spl s) (r.length : Int) (spl s) ((spl s).length : Int) ((0 : Nat) : Int) := by
    show (strings_Split k s [47]).bind _ = _
    rw [split_is k hk s hs, Option.bind_some, inb_eq (by omega)]
    have : rdT T.s (spl s) 0 = r := by rw [e]; rfl
    rw [this]; rfl
  rw [hm, rows_loop k cs hcs hcl (spl s) r.length (fun r hr => by have := spl_rows s r hr; omega) hl (spl s).length k 0 (by omega) (by omega), List.drop_zero]
  by_cases h1 : ∀ q ∈ spl s, q.length = r.length ∧ ∀ c ∈ q, c ∈ cs
  · rw [if_pos h1]
    by_cases h2 : (1 ≤ (spl s).length ∧ (spl s).length ≤ 7) ∧ (1 ≤ r.length ∧ r.length ≤ 7) ∧ r.length * (spl s).length ≤ 36
    · exact .inl ⟨r.length, (spl s).length, ⟨rfl, h1, h2.2.1.1, h2.2.1.2, h2.1.1, h2.1.2, h2.2.2⟩, by simp only [h2]; rfl⟩
    · refine .inr ⟨?_, spl s, by simp only [h2]; rfl⟩
      rintro ⟨w, h, q⟩
      have := (q.row r (by rw [e]; simp)).1
      have := q.len
      subst_vars
      exact h2 ⟨⟨q.h1, q.h7⟩, ⟨q.w1, q.w7⟩, q.wh⟩
  · rw [if_neg h1]
    refine .inr ⟨?_, [], rfl⟩
    rintro ⟨w, h, q⟩
    have := (q.row r (by rw [e]; simp)).1
    subst this
    exact h1 q.row

/-! ### The reference's reading -/
def rd (cs : List Int) : List Int → Nat → Nat → Nat → List Int → Option (Nat × Nat × List Int)
  | [], w, h, x, l => if (0 < h ∧ x ≠ w) ∨ x = 0 then none else some (x, h + 1, l)
  | c :: t, w, h, x, l =>
    if c = 47 then if (0 < h ∧ x ≠ w) ∨ x = 0 then none else rd cs t x (h + 1) 0 l
    else if c ∈ cs then rd cs t w h (x + 1) (l ++ [c]) else none
theorem rd_spec (cs : List Int) : ∀ (t : List Int) (w h x : Nat) (l r : List Int) (rs : List (List Int)), spl t = r :: rs →
    rd cs t w h x l = if (∀ c ∈ r, c ∈ cs) ∧ (x + r.length = w ∨ h = 0) ∧ x + r.length ≠ 0 ∧ ∀ q ∈ rs, q.length = x + r.length ∧ ∀ c ∈ q, c ∈ cs then some (x + r.length, h + 1 + rs.length, l ++ (r :: rs).flatten) else none
  | [], w, h, x, l, r, rs, e => by
    simp only [spl, List.cons.injEq] at e
    obtain ⟨rfl, rfl⟩ := e
    unfold rd
    by_cases h1 : (0 < h ∧ x ≠ w) ∨ x = 0
    · rw [if_pos h1, if_neg]
      rintro ⟨-, h2, h3, -⟩
      simp at h2 h3; omega
    · rw [if_neg h1, if_pos ⟨by simp, by simp; omega, by simp; omega, by simp⟩]
      simp
  | c :: t, w, h, x, l, r, rs, e => by
    obtain ⟨r1, rs1, e1⟩ := spl_cons (s := t)
    unfold rd
    by_cases hc : c = 47
    · have : spl (c :: t) = [] :: spl t := by simp [spl, hc]
      rw [this, e1] at e
      obtain ⟨rfl, rfl⟩ := List.cons.inj e
      rw [if_pos hc]
      by_cases h1 : (0 < h ∧ x ≠ w) ∨ x = 0
      · rw [if_pos h1, if_neg]
        rintro ⟨-, h2, h3, -⟩
        simp at h2 h3; omega
      · rw [if_neg h1, rd_spec cs t x (h + 1) 0 l r1 rs1 e1]
        by_cases h2 : (∀ c ∈ r1, c ∈ cs) ∧ (0 + r1.length = x ∨ h + 1 = 0) ∧ 0 + r1.length ≠ 0 ∧ ∀ q ∈ rs1, q.length = 0 + r1.length ∧ ∀ c ∈ q, c ∈ cs
        · obtain ⟨a1, a2, a3, a4⟩ := h2
          have a5 : r1.length = x := by omega
          rw [if_pos ⟨a1, a2, a3, a4⟩, if_pos]
          · simp [a5]; omega
          · refine ⟨by simp, by simp; omega, by simp; omega, ?_⟩
            intro q hq
            rcases List.mem_cons.1 hq with rfl | hq
            · exact ⟨by simp [a5], a1⟩
            · exact ⟨by have := (a4 q hq).1; simp; omega, (a4 q hq).2⟩
        · rw [if_neg h2, if_neg]
          rintro ⟨-, b2, b3, b4⟩
          have b5 := b4 r1 List.mem_cons_self
          simp at b2 b3 b5
          refine h2 ⟨b5.2, by omega, by omega, fun q hq => ?_⟩
          have := b4 q (List.mem_cons_of_mem _ hq)
          exact ⟨by have := this.1; simp at this; omega, this.2⟩
    · have : spl (c :: t) = (c :: r1) :: rs1 := by simp [spl, hc, e1]
      rw [this] at e
      obtain ⟨rfl, rfl⟩ := List.cons.inj e
      rw [if_neg hc]
      by_cases hm : c ∈ cs
      · rw [if_pos hm, rd_spec cs t w h (x + 1) (l ++ [c]) r1 rs1 e1]
        have e2 : x + 1 + r1.length = x + (c :: r1).length := by simp; omega
        have e3 : l ++ [c] ++ (r1 :: rs1).flatten = l ++ ((c :: r1) :: rs1).flatten := by simp
        rw [e2, e3]
        refine ifc ?_ _ _
        simp [hm]
      · rw [if_neg hm, if_neg]
        exact fun q => hm (q.1 c List.mem_cons_self)

def gz : tboGrid.in := ((0 : Int), (0 : Int), ([] : List Int), ())
def rdEnd : Option (Nat × Nat × List Int) → Bool → Option (tboGrid.in × (Bool × Unit))
  | none, _ => some (gz, false, ())
  | some (w, h, l), b => if 7 < w ∨ 7 < h ∨ 36 < l.length ∨ b = true then some (gz, false, ()) else some (((w : Int), (h : Int), l, ()), true, ())
theorem boRead_loop (k : Nat) (s : List Int) (x2 : Int × (Int × (List Int × Unit))) (hs : s.length ≤ 42) : ∀ (t : List Int) (n i w h x : Nat) (l : List Int), s.drop i = t → i + t.length = s.length → t.length + 1 < n → w ≤ i → h ≤ i → x ≤ i → l.length ≤ i →
    sp_boRead_l6 k n s x2 ((w : Int), (h : Int), l, ()) (x : Int) (i : Int) = rdEnd (rd [46, 35] t w h x l) false
  | [], n + 2, i, w, h, x, l, ht, hi, hn, _, _, _, _ => by
    show sp_boRead_l6s k _ _ _ _ _ _ = _
    unfold sp_boRead_l6s
    simp only [List.length_nil] at hi
    have tail : ∀ (w' h' : Nat), h' ≤ i + 1 → w' ≤ i → sp_boRead_l6 k (n + 1) s x2 ((w' : Int), (h' : Int), l, ()) 0 ((i + 1 : Nat) : Int) = rdEnd (some (w', h', l)) false := by
      intro w' h' _ _
      show sp_boRead_l6s k _ _ _ _ _ _ = _
      unfold sp_boRead_l6s
      rw [if_neg (by simp; omega)]
      show _ = if 7 < w' ∨ 7 < h' ∨ 36 < l.length ∨ false = true then some (gz, false, ()) else some (((w' : Int), (h' : Int), l, ()), true, ())
      by_cases h1 : 7 < w'
      · rw [if_pos (by simp; omega), if_pos (.inl h1)]; rfl
      · rw [if_neg (by simp; omega)]
        by_cases h2 : 7 < h'
        · rw [if_pos (by simp; omega), if_pos (.inr (.inl h2))]; rfl
        · rw [if_neg (by simp; omega)]
          by_cases h3 : 36 < l.length
          · rw [if_pos (by simp; omega), if_pos (.inr (.inr (.inl h3)))]; rfl
          · rw [if_neg (by simp; omega), if_neg (by simp; omega)]
    rw [if_pos (by simp; omega), if_neg (by simp; omega)]
    unfold rd
    have e1 : IntKind.i64.wrap ((i : Int) + 1) = ((i + 1 : Nat) : Int) := by rw [wr (by omega)]; rfl
    have e2 : IntKind.i64.wrap ((h : Int) + 1) = ((h + 1 : Nat) : Int) := by rw [wr (by omega)]; rfl
    simp only [e1, e2]
    by_cases h0 : 0 < h
    · rw [if_pos (by simp; omega)]
      by_cases h1 : x = w
      · subst h1
        rw [if_neg (by simp)]
        by_cases h2 : x = 0
        · rw [if_pos (by simp; omega), if_pos (.inr h2)]; rfl
        · rw [if_neg (by simp; omega), if_neg (by omega)]
          exact tail x (h + 1) (by omega) (by omega)
      · rw [if_pos (by simp; omega), if_pos (.inl ⟨h0, h1⟩)]; rfl
    · rw [if_neg (by simp; omega)]
      by_cases h2 : x = 0
      · rw [if_pos (by simp; omega), if_pos (.inr h2)]; rfl
      · rw [if_neg (by simp; omega), if_neg (by omega)]
        exact tail x (h + 1) (by omega) (by omega)
  | c :: t, n + 1, i, w, h, x, l, ht, hi, hn, hw, hh, hx, hl => by
    show sp_boRead_l6s k _ _ _ _ _ _ = _
    unfold sp_boRead_l6s
    simp only [List.length_cons] at hi hn
    have hc : s.getD (i : Int).toNat 0 = c := by
      have := getD_drop s i 0 (by omega)
      rw [ht] at this
      exact (List.cons.inj this).1.symm
    have ht' : s.drop (i + 1) = t := by
      have := getD_drop s i 0 (by omega)
      rw [ht] at this
      exact (List.cons.inj this).2.symm
    have e1 : IntKind.i64.wrap ((i : Int) + 1) = ((i + 1 : Nat) : Int) := by rw [wr (by omega)]; rfl
    have e2 : IntKind.i64.wrap ((h : Int) + 1) = ((h + 1 : Nat) : Int) := by rw [wr (by omega)]; rfl
    have e3 : IntKind.i64.wrap ((x : Int) + 1) = ((x + 1 : Nat) : Int) := by rw [wr (by omega)]; rfl
    have hin : ∀ {R : Type} (K : Option R), inb (i : Int) s.length K = K := fun K => inb_eq (by omega)
    rw [if_pos (by simp; omega), if_pos (by simp; omega)]
    simp only [hin, hc, e1, e2, e3]
    unfold rd
    by_cases hs : c = 47
    · subst hs
      rw [if_neg (by decide), if_pos rfl]
      have := boRead_loop k s x2 ‹_› t n (i + 1) x (h + 1) 0 l ht' (by omega) (by omega) (by omega) (by omega) (by omega) (by omega)
      by_cases h0 : 0 < h
      · rw [if_pos (by simp; omega)]
        by_cases h1 : x = w
        · subst h1
          rw [if_neg (by simp)]
          by_cases h2 : x = 0
          · rw [if_pos (by simp; omega), if_pos (.inr h2)]; rfl
          · rw [if_neg (by simp; omega), if_neg (by omega)]
            exact this
        · rw [if_pos (by simp; omega), if_pos (.inl ⟨h0, h1⟩)]; rfl
      · rw [if_neg (by simp; omega)]
        by_cases h2 : x = 0
        · rw [if_pos (by simp; omega), if_pos (.inr h2)]; rfl
        · rw [if_neg (by simp; omega), if_neg (by omega)]
          exact this
    · rw [if_pos (by simpa using hs), if_neg hs]
      have := boRead_loop k s x2 ‹_› t n (i + 1) w h (x + 1) (l ++ [c]) ht' (by omega) (by omega) (by omega) (by omega) (by omega) (by simp; omega)
      by_cases ha : c = 46
      · subst ha
        rw [if_neg (by decide), if_pos (by simp; omega), if_pos (by simp)]
        exact this
      · rw [if_pos (by simpa using ha)]
        by_cases hb : c = 35
        · subst hb
          rw [if_neg (by decide), if_pos (by simp; omega), if_pos (by simp)]
          exact this
        · rw [if_pos (by simpa using hb), if_neg (by simp [ha, hb])]
          rfl
theorem spl_size : ∀ s, s.length + 1 = (spl s).flatten.length + (spl s).length
  | [] => rfl
  | c :: s => by
    have ih := spl_size s
    unfold spl
    split
    · simp at ih ⊢; omega
    · obtain ⟨r, rs, e⟩ := spl_cons (s := s)
      rw [e] at ih ⊢
      simp at ih ⊢; omega
theorem flat_len {w : Nat} : ∀ (g : List (List Int)), (∀ r ∈ g, r.length = w) → g.flatten.length = w * g.length
  | [], _ => by simp
  | r :: g, h => by
    have := flat_len g (fun q hq => h q (List.mem_cons_of_mem _ hq))
    have h1 := h r List.mem_cons_self
    rw [List.flatten_cons, List.length_append, this, h1, List.length_cons, Nat.mul_add]; omega
theorem Bd.size {cs s : List Int} {w h : Nat} (b : Bd cs s w h) : s.length ≤ 42 := by
  have h1 := spl_size s
  rw [flat_len (spl s) (fun r hr => (b.row r hr).1), b.len] at h1
  have := b.wh; have := b.h7; omega
/-- What the end of the reading says, of a text whose reading is told by `rd`. -/
theorem rd_end (cs s : List Int) (b : Bool) : (∃ w h, Bd cs s w h ∧ rdEnd (rd cs s 0 0 0 []) b = if b = true then some (gz, false, ()) else some (((w : Int), (h : Int), (spl s).flatten, ()), true, ())) ∨ ((¬ ∃ w h, Bd cs s w h) ∧ rdEnd (rd cs s 0 0 0 []) b = some (gz, false, ())) := by
  obtain ⟨r, rs, e⟩ := spl_cons (s := s)
  rw [rd_spec cs s 0 0 0 [] r rs e]
  by_cases h1 : (∀ c ∈ r, c ∈ cs) ∧ (0 + r.length = 0 ∨ 0 = 0) ∧ 0 + r.length ≠ 0 ∧ ∀ q ∈ rs, q.length = 0 + r.length ∧ ∀ c ∈ q, c ∈ cs
  · rw [if_pos h1]
    obtain ⟨a1, -, a3, a4⟩ := h1
    have hrow : ∀ q ∈ spl s, q.length = r.length ∧ ∀ c ∈ q, c ∈ cs := by
      intro q hq
      rw [e] at hq
      rcases List.mem_cons.1 hq with rfl | hq
      · exact ⟨rfl, a1⟩
      · exact ⟨by have := (a4 q hq).1; omega, (a4 q hq).2⟩
    have hf := flat_len (spl s) (fun q hq => (hrow q hq).1)
    have hl : (spl s).length = 0 + 1 + rs.length := by rw [e]; simp; omega
    have hl' : (spl s).length = 1 + rs.length := by omega
    rw [← e, Nat.zero_add, List.nil_append, Nat.zero_add]
    have he : rdEnd (some (r.length, 1 + rs.length, (spl s).flatten)) b = if 7 < r.length ∨ 7 < 1 + rs.length ∨ 36 < (spl s).flatten.length ∨ b = true then some (gz, false, ()) else some (((r.length : Int), ((1 + rs.length : Nat) : Int), (spl s).flatten, ()), true, ()) := rfl
    rw [he]
    by_cases h2 : 7 < r.length ∨ 7 < 1 + rs.length ∨ 36 < (spl s).flatten.length
    · refine .inr ⟨?_, by rw [if_pos (by omega)]⟩
      rintro ⟨w, h, q⟩
      have := (q.row r (by rw [e]; simp)).1
      have := q.len
      have := q.w7; have := q.h7; have := q.wh
      rw [hf] at h2
      subst_vars
      omega
    · refine .inl ⟨r.length, 1 + rs.length, ⟨by omega, hrow, by omega, by omega, by omega, by omega, by rw [← hl', ← hf]; omega⟩, ?_⟩
      by_cases hb : b = true
      · rw [if_pos hb, if_pos (.inr (.inr (.inr hb)))]
      · rw [if_neg hb, if_neg (fun q => by rcases q with q | q | q | q <;> first | exact hb q | omega)]
  · rw [if_neg h1]
    refine .inr ⟨?_, rfl⟩
    rintro ⟨w, h, q⟩
    have q1 := q.row r (by rw [e]; simp)
    have := q.w1
    refine h1 ⟨q1.2, .inr rfl, by omega, fun x hx => ?_⟩
    have := q.row x (by rw [e]; simp [hx])
    exact ⟨by omega, this.2⟩
theorem boRead_is (k : Nat) (_hk : 2097152 ≤ k) (s : List Int) :
    (∃ w h, Bd [46, 35] s w h ∧ sp_boRead k s = some (((w : Int), (h : Int), (spl s).flatten, ()), true, ())) ∨ ((¬ ∃ w h, Bd [46, 35] s w h) ∧ sp_boRead k s = some (gz, false, ())) := by
  by_cases hl : 42 < s.length
  · refine .inr ⟨?_, ?_⟩
    · rintro ⟨w, h, b⟩
      have := b.size; omega
    · show (if decide ((42 : Int) < (s.length : Int)) = true then _ else _) = _
      rw [if_pos (by simp; omega)]; rfl
  · have e : sp_boRead k s = rdEnd (rd [46, 35] s 0 0 0 []) false := by
      show (if decide ((42 : Int) < (s.length : Int)) = true then _ else _) = _
      rw [if_neg (by simp; omega)]
      exact boRead_loop k s _ (by omega) s k 0 0 0 0 [] (by simp) (by omega) (by omega) (by omega) (by omega) (by omega) (by simp)
    rw [e]
    exact rd_end [46, 35] s false
end Ev
/- loop.example/g01207/spec.boCell -/
namespace Ev
open Go Go.Proofs
/-! spec.boCell -/
def sp_boCell_s (k : Nat) (x0 : tboGrid.in) (x1 : Int) (x2 : Int) : Option Bool :=
  (sp_l1In k x1 (0 : Int) (IntKind.i64.wrap (x0.1 - (1 : Int)))).bind fun r1 =>
  if r1 = true then
    (sp_l1In k x2 (0 : Int) (IntKind.i64.wrap (x0.2.1 - (1 : Int)))).bind fun r2 =>
    some r2
  else
    some false
def sp_boCell (k : Nat) (x0 : tboGrid.in) (x1 : Int) (x2 : Int) : Option Bool := sp_boCell_s k x0 x1 x2
noncomputable def sp_boCell_O (k : Nat) : Orc := { ps := [.v tboGrid, .v I, .v I], rt := (.v T.b), F := fun x => sp_boCell k x.1 x.2.1 x.2.2.1 }
noncomputable def sp_boCell_E (k : Nat) : Env := { ty := tabTy Tryd_tab, ds := tabDs Tryd_tab, rounds := k, nt := 19, orc := fun g => if Nat.beq g 82 = true then some (sp_l1In_O k) else (none), lp := fun _ => none, ct := fun _ => none, plan := fun _ => none }
noncomputable def sp_boCell_fin (k : Nat) : Kn Bool := finish (sp_boCell_E k) [.v tboGrid, .v I, .v I] (.v T.b) Tryd.f120.results.toList
theorem sp_boCell_st (k : Nat) (x0 : tboGrid.in) (x1 : Int) (x2 : Int) : evFun (sp_boCell_E k) [.v tboGrid, .v I, .v I] (.v T.b) Tryd.f120 (x0, x1, x2, ()) = sp_boCell_s k x0 x1 x2 := by kernel_rfl
theorem sp_boCell_ev (k : Nat) (x0 : tboGrid.in) (x1 : Int) (x2 : Int) : evFun (sp_boCell_E k) [.v tboGrid, .v I, .v I] (.v T.b) Tryd.f120 (x0, x1, x2, ()) = sp_boCell k x0 x1 x2 := by
  skip
  rw [sp_boCell_st]; rfl
theorem sp_boCell_c (k : Nat) : Contract Tryd.prog 120 (sp_boCell_O k) :=
  fun_sound (c := bodyOf Tryd.f120) (tab_ok Tryd_tab_ok rfl rfl) (orc_cons (sp_l1In_c k) orc_nil) Tryd.func120 (by kernel_rfl) rfl (by kernel_rfl) (by decide) rfl rfl (by kernel_rfl) (by kernel_rfl) (by kernel_rfl) (fun x _ h => (sp_boCell_ev k x.1 x.2.1 x.2.2.1).trans h)
end Ev
/- loop.example/g01207/spec.boFloor -/
namespace Ev
open Go Go.Proofs
/-! spec.boFloor -/
def sp_boFloor_s (k : Nat) (x0 : tboGrid.in) (x1 : Int) (x2 : Int) : Option Bool :=
  (sp_boCell k x0 x1 x2).bind fun r1 =>
  if r1 = true then
    inb (IntKind.i64.wrap ((IntKind.i64.wrap (x2 * x0.1)) + x1)) x0.2.2.1.length (
      some (decide ((rdT (.i .u8) x0.2.2.1 (IntKind.i64.wrap ((IntKind.i64.wrap (x2 * x0.1)) + x1))) = (46 : Int))))
  else
    some false
def sp_boFloor (k : Nat) (x0 : tboGrid.in) (x1 : Int) (x2 : Int) : Option Bool := sp_boFloor_s k x0 x1 x2
noncomputable def sp_boFloor_O (k : Nat) : Orc := { ps := [.v tboGrid, .v I, .v I], rt := (.v T.b), F := fun x => sp_boFloor k x.1 x.2.1 x.2.2.1 }
noncomputable def sp_boFloor_E (k : Nat) : Env := { ty := tabTy Tryd_tab, ds := tabDs Tryd_tab, rounds := k, nt := 24, orc := fun g => if Nat.beq g 120 = true then some (sp_boCell_O k) else (none), lp := fun _ => none, ct := fun _ => none, plan := fun _ => none }
noncomputable def sp_boFloor_fin (k : Nat) : Kn Bool := finish (sp_boFloor_E k) [.v tboGrid, .v I, .v I] (.v T.b) Tryd.f88.results.toList
theorem sp_boFloor_st (k : Nat) (x0 : tboGrid.in) (x1 : Int) (x2 : Int) : evFun (sp_boFloor_E k) [.v tboGrid, .v I, .v I] (.v T.b) Tryd.f88 (x0, x1, x2, ()) = sp_boFloor_s k x0 x1 x2 := by kernel_rfl
theorem sp_boFloor_ev (k : Nat) (x0 : tboGrid.in) (x1 : Int) (x2 : Int) : evFun (sp_boFloor_E k) [.v tboGrid, .v I, .v I] (.v T.b) Tryd.f88 (x0, x1, x2, ()) = sp_boFloor k x0 x1 x2 := by
  skip
  rw [sp_boFloor_st]; rfl
theorem sp_boFloor_c (k : Nat) : Contract Tryd.prog 88 (sp_boFloor_O k) :=
  fun_sound (c := bodyOf Tryd.f88) (tab_ok Tryd_tab_ok rfl rfl) (orc_cons (sp_boCell_c k) orc_nil) Tryd.func88 (by kernel_rfl) rfl (by kernel_rfl) (by decide) rfl rfl (by kernel_rfl) (by kernel_rfl) (by kernel_rfl) (fun x _ h => (sp_boFloor_ev k x.1 x.2.1 x.2.2.1).trans h)
end Ev
/- loop.example/g01207/spec.diFaces -/
namespace Ev
open Go Go.Proofs
/-! spec.diFaces -/
def sp_diFaces_s (_k : Nat) (x0 : tDie.in) : Option (List Int) :=
  some ([x0.1, x0.2.1, x0.2.2.1, x0.2.2.2.1, x0.2.2.2.2.1, x0.2.2.2.2.2.1] : List Int)
def sp_diFaces (k : Nat) (x0 : tDie.in) : Option (List Int) := sp_diFaces_s k x0
noncomputable def sp_diFaces_O (k : Nat) : Orc := { ps := [.v tDie], rt := (.o 3 I), F := fun x => sp_diFaces k x.1 }
noncomputable def sp_diFaces_E (k : Nat) : Env := { ty := tabTy Tryd_tab, ds := tabDs Tryd_tab, rounds := k, nt := 16, orc := fun _ => none, lp := fun _ => none, ct := fun _ => none, plan := fun _ => none }
noncomputable def sp_diFaces_fin (k : Nat) : Kn (List Int) := finish (sp_diFaces_E k) [.v tDie] (.o 3 I) Tryd.f97.results.toList
theorem sp_diFaces_st (k : Nat) (x0 : tDie.in) : evFun (sp_diFaces_E k) [.v tDie] (.o 3 I) Tryd.f97 (x0, ()) = sp_diFaces_s k x0 := by kernel_rfl
theorem sp_diFaces_ev (k : Nat) (x0 : tDie.in) : evFun (sp_diFaces_E k) [.v tDie] (.o 3 I) Tryd.f97 (x0, ()) = sp_diFaces k x0 := by
  skip
  rw [sp_diFaces_st]; rfl
theorem sp_diFaces_c (k : Nat) : Contract Tryd.prog 97 (sp_diFaces_O k) :=
  fun_sound (c := bodyOf Tryd.f97) (tab_ok Tryd_tab_ok rfl rfl) orc_nil Tryd.func97 (by kernel_rfl) rfl (by kernel_rfl) (by decide) rfl rfl (by kernel_rfl) (by kernel_rfl) (by kernel_rfl) (fun x _ h => (sp_diFaces_ev k x.1).trans h)
end Ev
/- loop.example/g01207/spec.l1All -/
namespace Ev
open Go Go.Proofs
/-! spec.l1All -/
@[reducible] def sp_l1All_l2_L : List (Nat × Sh) := [(1, (.v I)), (2, (.v I)), (9, (.v (.sl I))), (10, (.v I)), (11, (.v I))]
def sp_l1All_l2s (k : Nat) (g_l2 : Int → Int → (List Int) → Int → Int → Option Bool) (x1 : Int) (x2 : Int) (x9 : (List Int)) (x10 : Int) (x11 : Int) : Option Bool :=
  if (decide (x11 < x10)) = true then
    inb x11 x9.length (
      (sp_l1In k (rdT I x9 x11) x1 x2).bind fun r1 =>
      if (!r1) = true then
        some false
      else
        g_l2 x1 x2 x9 x10 (IntKind.i64.wrap (x11 + (1 : Int))))
  else
    some true
def sp_l1All_l2 (k : Nat)  : Nat → Int → Int → (List Int) → Int → Int → Option Bool
  | 0, _, _, _, _, _ => none
  | n + 1, x1, x2, x9, x10, x11 => sp_l1All_l2s k (sp_l1All_l2 k n) x1 x2 x9 x10 x11
def sp_l1All_s (_k : Nat) (c_l2 : Int → Int → (List Int) → Int → Int → Option Bool) (x0 : (List Int)) (x1 : Int) (x2 : Int) : Option Bool :=
  c_l2 x1 x2 x0 (x0.length : Int) (0 : Int)
def sp_l1All (k : Nat) (x0 : (List Int)) (x1 : Int) (x2 : Int) : Option Bool := sp_l1All_s k (sp_l1All_l2 k k) x0 x1 x2
noncomputable def sp_l1All_O (k : Nat) : Orc := { ps := [.v (.sl I), .v I, .v I], rt := (.v T.b), F := fun x => sp_l1All k x.1 x.2.1 x.2.2.1 }
noncomputable def sp_l1All_E (k : Nat) : Env := { ty := tabTy Tryd_tab, ds := tabDs Tryd_tab, rounds := k, nt := 21, orc := fun g => if Nat.beq g 82 = true then some (sp_l1In_O k) else (none), lp := fun i => if Nat.beq i 2 = true then some sp_l1All_l2_L else (none), ct := fun _ => none, plan := fun _ => none }
noncomputable def sp_l1All_fin (k : Nat) : Kn Bool := finish (sp_l1All_E k) [.v (.sl I), .v I, .v I] (.v T.b) Tryd.f148.results.toList
noncomputable def sp_l1All_l2_e (k : Nat)  (n : Nat) (x1 : Int) (x2 : Int) (x9 : (List Int)) (x10 : Int) (x11 : Int) : Option Bool := loopF (sp_l1All_E k) sp_l1All_l2_L (ev (sp_l1All_E k) (sub (bodyOf Tryd.f148) [.r, .l, .r, .c, .c])) (kont (sp_l1All_E k) (bodyOf Tryd.f148) [.r, .l, .r, .c] [] (sp_l1All_fin k)) n (x1, x2, x9, x10, x11, ())
theorem sp_l1All_l2_z (k : Nat)  (x1 : Int) (x2 : Int) (x9 : (List Int)) (x10 : Int) (x11 : Int) : sp_l1All_l2_e k 0 x1 x2 x9 x10 x11 = none := by kernel_rfl
theorem sp_l1All_l2_st (k : Nat)  (n : Nat) (x1 : Int) (x2 : Int) (x9 : (List Int)) (x10 : Int) (x11 : Int) : sp_l1All_l2_e k (n + 1) x1 x2 x9 x10 x11 = sp_l1All_l2s k (sp_l1All_l2_e k n) x1 x2 x9 x10 x11 := by kernel_rfl
theorem sp_l1All_l2_ev (k : Nat)  : ∀ (n : Nat) (x1 : Int) (x2 : Int) (x9 : (List Int)) (x10 : Int) (x11 : Int), sp_l1All_l2_e k n x1 x2 x9 x10 x11 = sp_l1All_l2 k n x1 x2 x9 x10 x11
  | 0, x1, x2, x9, x10, x11 => sp_l1All_l2_z k x1 x2 x9 x10 x11
  | n + 1, x1, x2, x9, x10, x11 => by
    have ih : (sp_l1All_l2_e k n) = sp_l1All_l2 k n := by funext y0 y1 y2 y3 y4; exact sp_l1All_l2_ev k n y0 y1 y2 y3 y4
    rw [sp_l1All_l2_st, ih]; rfl
theorem sp_l1All_st (k : Nat) (x0 : (List Int)) (x1 : Int) (x2 : Int) : evFun (sp_l1All_E k) [.v (.sl I), .v I, .v I] (.v T.b) Tryd.f148 (x0, x1, x2, ()) = sp_l1All_s k (sp_l1All_l2_e k k) x0 x1 x2 := by kernel_rfl
theorem sp_l1All_ev (k : Nat) (x0 : (List Int)) (x1 : Int) (x2 : Int) : evFun (sp_l1All_E k) [.v (.sl I), .v I, .v I] (.v T.b) Tryd.f148 (x0, x1, x2, ()) = sp_l1All k x0 x1 x2 := by
  have h0 : (sp_l1All_l2_e k k) = (sp_l1All_l2 k k) := by funext y0 y1 y2 y3 y4; exact sp_l1All_l2_ev k k y0 y1 y2 y3 y4
  rw [sp_l1All_st, h0]; rfl
theorem sp_l1All_c (k : Nat) : Contract Tryd.prog 148 (sp_l1All_O k) :=
  fun_sound (c := bodyOf Tryd.f148) (tab_ok Tryd_tab_ok rfl rfl) (orc_cons (sp_l1In_c k) orc_nil) Tryd.func148 (by kernel_rfl) rfl (by kernel_rfl) (by decide) rfl rfl (by kernel_rfl) (by kernel_rfl) (by kernel_rfl) (fun x _ h => (sp_l1All_ev k x.1 x.2.1 x.2.2.1).trans h)
end Ev
/- loop.example/g01207/spec.diGood -/
namespace Ev
open Go Go.Proofs
/-! spec.diGood -/
def sp_diGood_s (k : Nat) (x0 : tDie.in) : Option Bool :=
  (sp_diFaces k x0).bind fun r1 =>
  (sp_l1All k r1 (0 : Int) (9 : Int)).bind fun r2 =>
  some r2
def sp_diGood (k : Nat) (x0 : tDie.in) : Option Bool := sp_diGood_s k x0
noncomputable def sp_diGood_O (k : Nat) : Orc := { ps := [.v tDie], rt := (.v T.b), F := fun x => sp_diGood k x.1 }
noncomputable def sp_diGood_E (k : Nat) : Env := { ty := tabTy Tryd_tab, ds := tabDs Tryd_tab, rounds := k, nt := 6, orc := fun g => if Nat.beq g 97 = true then some (sp_diFaces_O k) else (if Nat.beq g 148 = true then some (sp_l1All_O k) else (none)), lp := fun _ => none, ct := fun _ => none, plan := fun _ => none }
noncomputable def sp_diGood_fin (k : Nat) : Kn Bool := finish (sp_diGood_E k) [.v tDie] (.v T.b) Tryd.f128.results.toList
theorem sp_diGood_st (k : Nat) (x0 : tDie.in) : evFun (sp_diGood_E k) [.v tDie] (.v T.b) Tryd.f128 (x0, ()) = sp_diGood_s k x0 := by kernel_rfl
theorem sp_diGood_ev (k : Nat) (x0 : tDie.in) : evFun (sp_diGood_E k) [.v tDie] (.v T.b) Tryd.f128 (x0, ()) = sp_diGood k x0 := by
  skip
  rw [sp_diGood_st]; rfl
theorem sp_diGood_c (k : Nat) : Contract Tryd.prog 128 (sp_diGood_O k) :=
  fun_sound (c := bodyOf Tryd.f128) (tab_ok Tryd_tab_ok rfl rfl) (orc_cons (sp_diFaces_c k) (orc_cons (sp_l1All_c k) orc_nil)) Tryd.func128 (by kernel_rfl) rfl (by kernel_rfl) (by decide) rfl rfl (by kernel_rfl) (by kernel_rfl) (by kernel_rfl) (fun x _ h => (sp_diGood_ev k x.1).trans h)
end Ev
/- loop.example/g01207/spec.boState -/
namespace Ev
open Go Go.Proofs
/-! spec.boState -/
def sp_boState_s (k : Nat) (x0 : tboGrid.in) (x1 : tState.in) : Option Bool :=
  (sp_boFloor k x0 x1.1 x1.2.1).bind fun r1 =>
  if r1 = true then
    (sp_diGood k x1.2.2.1).bind fun r2 =>
    some r2
  else
    some false
def sp_boState (k : Nat) (x0 : tboGrid.in) (x1 : tState.in) : Option Bool := sp_boState_s k x0 x1
noncomputable def sp_boState_O (k : Nat) : Orc := { ps := [.v tboGrid, .v tState], rt := (.v T.b), F := fun x => sp_boState k x.1 x.2.1 }
noncomputable def sp_boState_E (k : Nat) : Env := { ty := tabTy Tryd_tab, ds := tabDs Tryd_tab, rounds := k, nt := 16, orc := fun g => if Nat.beq g 88 = true then some (sp_boFloor_O k) else (if Nat.beq g 128 = true then some (sp_diGood_O k) else (none)), lp := fun _ => none, ct := fun _ => none, plan := fun _ => none }
noncomputable def sp_boState_fin (k : Nat) : Kn Bool := finish (sp_boState_E k) [.v tboGrid, .v tState] (.v T.b) Tryd.f105.results.toList
theorem sp_boState_st (k : Nat) (x0 : tboGrid.in) (x1 : tState.in) : evFun (sp_boState_E k) [.v tboGrid, .v tState] (.v T.b) Tryd.f105 (x0, x1, ()) = sp_boState_s k x0 x1 := by kernel_rfl
theorem sp_boState_ev (k : Nat) (x0 : tboGrid.in) (x1 : tState.in) : evFun (sp_boState_E k) [.v tboGrid, .v tState] (.v T.b) Tryd.f105 (x0, x1, ()) = sp_boState k x0 x1 := by
  skip
  rw [sp_boState_st]; rfl
theorem sp_boState_c (k : Nat) : Contract Tryd.prog 105 (sp_boState_O k) :=
  fun_sound (c := bodyOf Tryd.f105) (tab_ok Tryd_tab_ok rfl rfl) (orc_cons (sp_boFloor_c k) (orc_cons (sp_diGood_c k) orc_nil)) Tryd.func105 (by kernel_rfl) rfl (by kernel_rfl) (by decide) rfl rfl (by kernel_rfl) (by kernel_rfl) (by kernel_rfl) (fun x _ h => (sp_boState_ev k x.1 x.2.1).trans h)
end Ev
/- loop.example/g01207/spec.boAsked -/
namespace Ev
open Go Go.Proofs
/-! spec.boAsked -/
def sp_boAsked_s (k : Nat) (x0 : (List Int)) (x1 : tState.in) : Option (tboGrid.in × (Bool × Unit)) :=
  (sp_boRead k x0).bind fun r1 =>
  if r1.2.1 = true then
    (sp_boState k r1.1 x1).bind fun r2 =>
    some (r1.1, r2, ())
  else
    some (r1.1, false, ())
def sp_boAsked (k : Nat) (x0 : (List Int)) (x1 : tState.in) : Option (tboGrid.in × (Bool × Unit)) := sp_boAsked_s k x0 x1
noncomputable def sp_boAsked_O (k : Nat) : Orc := { ps := [.v T.s, .v tState], rt := (.pr (.v tboGrid) (.pr (.v T.b) .un)), F := fun x => sp_boAsked k x.1 x.2.1 }
noncomputable def sp_boAsked_E (k : Nat) : Env := { ty := tabTy Tryd_tab, ds := tabDs Tryd_tab, rounds := k, nt := 20, orc := fun g => if Nat.beq g 44 = true then some (sp_boRead_O k) else (if Nat.beq g 105 = true then some (sp_boState_O k) else (none)), lp := fun _ => none, ct := fun _ => none, plan := fun i => if Nat.beq i 2 = true then some [(0, []), (1, []), (2, []), (3, []), (4, []), (5, []), (6, []), (7, []), (8, [])] else (none) }
noncomputable def sp_boAsked_fin (k : Nat) : Kn (tboGrid.in × (Bool × Unit)) := finish (sp_boAsked_E k) [.v T.s, .v tState] (.pr (.v tboGrid) (.pr (.v T.b) .un)) Tryd.f65.results.toList
theorem sp_boAsked_st (k : Nat) (x0 : (List Int)) (x1 : tState.in) : evFun (sp_boAsked_E k) [.v T.s, .v tState] (.pr (.v tboGrid) (.pr (.v T.b) .un)) Tryd.f65 (x0, x1, ()) = sp_boAsked_s k x0 x1 := by kernel_rfl
theorem sp_boAsked_ev (k : Nat) (x0 : (List Int)) (x1 : tState.in) : evFun (sp_boAsked_E k) [.v T.s, .v tState] (.pr (.v tboGrid) (.pr (.v T.b) .un)) Tryd.f65 (x0, x1, ()) = sp_boAsked k x0 x1 := by
  skip
  rw [sp_boAsked_st]; rfl
theorem sp_boAsked_c (k : Nat) : Contract Tryd.prog 65 (sp_boAsked_O k) :=
  fun_sound (c := bodyOf Tryd.f65) (tab_ok Tryd_tab_ok rfl rfl) (orc_cons (sp_boRead_c k) (orc_cons (sp_boState_c k) orc_nil)) Tryd.func65 (by kernel_rfl) rfl (by kernel_rfl) (by decide) rfl rfl (by kernel_rfl) (by kernel_rfl) (by kernel_rfl) (fun x _ h => (sp_boAsked_ev k x.1 x.2.1).trans h)
end Ev
/- loop.example/g01207/impl.board -/
namespace Ev
open Go Go.Proofs
/-! impl.board -/
def im_board_s (k : Nat) (x0 : (List Int)) : Option ((List (List Int)) × (Bool × Unit)) :=
  (im_rowsOf k x0 ([46, 35] : List Int)).bind fun r1 =>
  some (r1.1, r1.2.1, ())
def im_board (k : Nat) (x0 : (List Int)) : Option ((List (List Int)) × (Bool × Unit)) := im_board_s k x0
noncomputable def im_board_O (k : Nat) : Orc := { ps := [.v T.s], rt := (.pr (.v (.sl T.s)) (.pr (.v T.b) .un)), F := fun x => im_board k x.1 }
noncomputable def im_board_E (k : Nat) : Env := { ty := tabTy Tryd_tab, ds := tabDs Tryd_tab, rounds := k, nt := 8, orc := fun g => if Nat.beq g 91 = true then some (im_rowsOf_O k) else (none), lp := fun _ => none, ct := fun _ => none, plan := fun _ => none }
noncomputable def im_board_fin (k : Nat) : Kn ((List (List Int)) × (Bool × Unit)) := finish (im_board_E k) [.v T.s] (.pr (.v (.sl T.s)) (.pr (.v T.b) .un)) Tryd.f49.results.toList
theorem im_board_st (k : Nat) (x0 : (List Int)) : evFun (im_board_E k) [.v T.s] (.pr (.v (.sl T.s)) (.pr (.v T.b) .un)) Tryd.f49 (x0, ()) = im_board_s k x0 := by kernel_rfl
theorem im_board_ev (k : Nat) (x0 : (List Int)) : evFun (im_board_E k) [.v T.s] (.pr (.v (.sl T.s)) (.pr (.v T.b) .un)) Tryd.f49 (x0, ()) = im_board k x0 := by
  skip
  rw [im_board_st]; rfl
theorem im_board_c (k : Nat) : Contract Tryd.prog 49 (im_board_O k) :=
  fun_sound (c := bodyOf Tryd.f49) (tab_ok Tryd_tab_ok rfl rfl) (orc_cons (im_rowsOf_c k) orc_nil) Tryd.func49 (by kernel_rfl) rfl (by kernel_rfl) (by decide) rfl rfl (by kernel_rfl) (by kernel_rfl) (by kernel_rfl) (fun x _ h => (im_board_ev k x.1).trans h)
end Ev
/- (loop.example/g01207/impl.grid).has -/
namespace Ev
open Go Go.Proofs
/-! (impl.grid).has -/
def im_grid_has_s (k : Nat) (x0 : (List (List Int))) (x1 : Int) (x2 : Int) : Option Bool :=
  (im_in k x2 (0 : Int) (IntKind.i64.wrap ((x0.length : Int) - (1 : Int)))).bind fun r1 =>
  if r1 = true then
    inb (0 : Int) x0.length (
      (im_in k x1 (0 : Int) (IntKind.i64.wrap (((rdT T.s x0 (0 : Int)).length : Int) - (1 : Int)))).bind fun r2 =>
      some r2)
  else
    some false
def im_grid_has (k : Nat) (x0 : (List (List Int))) (x1 : Int) (x2 : Int) : Option Bool := im_grid_has_s k x0 x1 x2
noncomputable def im_grid_has_O (k : Nat) : Orc := { ps := [.v (.sl T.s), .v I, .v I], rt := (.v T.b), F := fun x => im_grid_has k x.1 x.2.1 x.2.2.1 }
noncomputable def im_grid_has_E (k : Nat) : Env := { ty := tabTy Tryd_tab, ds := tabDs Tryd_tab, rounds := k, nt := 21, orc := fun g => if Nat.beq g 85 = true then some (im_in_O k) else (none), lp := fun _ => none, ct := fun _ => none, plan := fun _ => none }
noncomputable def im_grid_has_fin (k : Nat) : Kn Bool := finish (im_grid_has_E k) [.v (.sl T.s), .v I, .v I] (.v T.b) Tryd.f112.results.toList
theorem im_grid_has_st (k : Nat) (x0 : (List (List Int))) (x1 : Int) (x2 : Int) : evFun (im_grid_has_E k) [.v (.sl T.s), .v I, .v I] (.v T.b) Tryd.f112 (x0, x1, x2, ()) = im_grid_has_s k x0 x1 x2 := by kernel_rfl
theorem im_grid_has_ev (k : Nat) (x0 : (List (List Int))) (x1 : Int) (x2 : Int) : evFun (im_grid_has_E k) [.v (.sl T.s), .v I, .v I] (.v T.b) Tryd.f112 (x0, x1, x2, ()) = im_grid_has k x0 x1 x2 := by
  skip
  rw [im_grid_has_st]; rfl
theorem im_grid_has_c (k : Nat) : Contract Tryd.prog 112 (im_grid_has_O k) :=
  fun_sound (c := bodyOf Tryd.f112) (tab_ok Tryd_tab_ok rfl rfl) (orc_cons (im_in_c k) orc_nil) Tryd.func112 (by kernel_rfl) rfl (by kernel_rfl) (by decide) rfl rfl (by kernel_rfl) (by kernel_rfl) (by kernel_rfl) (fun x _ h => (im_grid_has_ev k x.1 x.2.1 x.2.2.1).trans h)
end Ev
/- (loop.example/g01207/impl.grid).at -/
namespace Ev
open Go Go.Proofs
/-! (impl.grid).at -/
def im_grid_at_s (k : Nat) (x0 : (List (List Int))) (x1 : Int) (x2 : Int) : Option Int :=
  (im_grid_has k x0 x1 x2).bind fun r1 =>
  if (!r1) = true then
    some (0 : Int)
  else
    inb x2 x0.length (
      inb x1 (rdT T.s x0 x2).length (
        some ((rdT T.s x0 x2).getD (x1).toNat 0)))
def im_grid_at (k : Nat) (x0 : (List (List Int))) (x1 : Int) (x2 : Int) : Option Int := im_grid_at_s k x0 x1 x2
noncomputable def im_grid_at_O (k : Nat) : Orc := { ps := [.v (.sl T.s), .v I, .v I], rt := (.v (.i .u8)), F := fun x => im_grid_at k x.1 x.2.1 x.2.2.1 }
noncomputable def im_grid_at_E (k : Nat) : Env := { ty := tabTy Tryd_tab, ds := tabDs Tryd_tab, rounds := k, nt := 18, orc := fun g => if Nat.beq g 112 = true then some (im_grid_has_O k) else (none), lp := fun _ => none, ct := fun _ => none, plan := fun _ => none }
noncomputable def im_grid_at_fin (k : Nat) : Kn Int := finish (im_grid_at_E k) [.v (.sl T.s), .v I, .v I] (.v (.i .u8)) Tryd.f70.results.toList
theorem im_grid_at_st (k : Nat) (x0 : (List (List Int))) (x1 : Int) (x2 : Int) : evFun (im_grid_at_E k) [.v (.sl T.s), .v I, .v I] (.v (.i .u8)) Tryd.f70 (x0, x1, x2, ()) = im_grid_at_s k x0 x1 x2 := by kernel_rfl
theorem im_grid_at_ev (k : Nat) (x0 : (List (List Int))) (x1 : Int) (x2 : Int) : evFun (im_grid_at_E k) [.v (.sl T.s), .v I, .v I] (.v (.i .u8)) Tryd.f70 (x0, x1, x2, ()) = im_grid_at k x0 x1 x2 := by
  skip
  rw [im_grid_at_st]; rfl
theorem im_grid_at_c (k : Nat) : Contract Tryd.prog 70 (im_grid_at_O k) :=
  fun_sound (c := bodyOf Tryd.f70) (tab_ok Tryd_tab_ok rfl rfl) (orc_cons (im_grid_has_c k) orc_nil) Tryd.func70 (by kernel_rfl) rfl (by kernel_rfl) (by decide) rfl rfl (by kernel_rfl) (by kernel_rfl) (by kernel_rfl) (fun x _ h => (im_grid_at_ev k x.1 x.2.1 x.2.2.1).trans h)
end Ev
/- (loop.example/g01207/impl.Die).faces -/
namespace Ev
open Go Go.Proofs
/-! (impl.Die).faces -/
def im_Die_faces_s (_k : Nat) (x0 : tDie.in) : Option (List Int) :=
  some ([x0.1, x0.2.1, x0.2.2.1, x0.2.2.2.1, x0.2.2.2.2.1, x0.2.2.2.2.2.1] : List Int)
def im_Die_faces (k : Nat) (x0 : tDie.in) : Option (List Int) := im_Die_faces_s k x0
noncomputable def im_Die_faces_O (k : Nat) : Orc := { ps := [.v tDie], rt := (.o 3 I), F := fun x => im_Die_faces k x.1 }
noncomputable def im_Die_faces_E (k : Nat) : Env := { ty := tabTy Tryd_tab, ds := tabDs Tryd_tab, rounds := k, nt := 16, orc := fun _ => none, lp := fun _ => none, ct := fun _ => none, plan := fun _ => none }
noncomputable def im_Die_faces_fin (k : Nat) : Kn (List Int) := finish (im_Die_faces_E k) [.v tDie] (.o 3 I) Tryd.f102.results.toList
theorem im_Die_faces_st (k : Nat) (x0 : tDie.in) : evFun (im_Die_faces_E k) [.v tDie] (.o 3 I) Tryd.f102 (x0, ()) = im_Die_faces_s k x0 := by kernel_rfl
theorem im_Die_faces_ev (k : Nat) (x0 : tDie.in) : evFun (im_Die_faces_E k) [.v tDie] (.o 3 I) Tryd.f102 (x0, ()) = im_Die_faces k x0 := by
  skip
  rw [im_Die_faces_st]; rfl
theorem im_Die_faces_c (k : Nat) : Contract Tryd.prog 102 (im_Die_faces_O k) :=
  fun_sound (c := bodyOf Tryd.f102) (tab_ok Tryd_tab_ok rfl rfl) orc_nil Tryd.func102 (by kernel_rfl) rfl (by kernel_rfl) (by decide) rfl rfl (by kernel_rfl) (by kernel_rfl) (by kernel_rfl) (fun x _ h => (im_Die_faces_ev k x.1).trans h)
end Ev
/- slices.IndexFunc[[]int,int] -/
namespace Ev
open Go Go.Proofs
/-! slices.IndexFunc[[]int,int] -/
@[reducible] def slices_IndexFunc_int_int_l2_L : List (Nat × Sh) := [(0, (.v (.sl I))), (1, (.v (.fn (.pr I T.un) T.b))), (7, (.v I)), (8, (.v I))]
def slices_IndexFunc_int_int_l2s (_k : Nat) (g_l2 : (List Int) → ((Int × Unit) → Option Bool) → Int → Int → Option Int) (x0 : (List Int)) (x1 : ((Int × Unit) → Option Bool)) (x7 : Int) (x8 : Int) : Option Int :=
  if (decide (x8 < x7)) = true then
    inb x8 x0.length (
      (x1 ((rdT I x0 x8), ())).bind fun r1 =>
      if r1 = true then
        some x8
      else
        g_l2 x0 x1 x7 (IntKind.i64.wrap (x8 + (1 : Int))))
  else
    some (-1 : Int)
def slices_IndexFunc_int_int_l2 (k : Nat)  : Nat → (List Int) → ((Int × Unit) → Option Bool) → Int → Int → Option Int
  | 0, _, _, _, _ => none
  | n + 1, x0, x1, x7, x8 => slices_IndexFunc_int_int_l2s k (slices_IndexFunc_int_int_l2 k n) x0 x1 x7 x8
def slices_IndexFunc_int_int_s (_k : Nat) (c_l2 : (List Int) → ((Int × Unit) → Option Bool) → Int → Int → Option Int) (x0 : (List Int)) (x1 : ((Int × Unit) → Option Bool)) : Option Int :=
  c_l2 x0 x1 (x0.length : Int) (0 : Int)
def slices_IndexFunc_int_int (k : Nat) (x0 : (List Int)) (x1 : ((Int × Unit) → Option Bool)) : Option Int := slices_IndexFunc_int_int_s k (slices_IndexFunc_int_int_l2 k k) x0 x1
noncomputable def slices_IndexFunc_int_int_O (k : Nat) : Orc := { ps := [.v (.sl I), .v (.fn (.pr I T.un) T.b)], rt := (.v I), F := fun x => slices_IndexFunc_int_int k x.1 x.2.1 }
noncomputable def slices_IndexFunc_int_int_E (k : Nat) : Env := { ty := tabTy Tryd_tab, ds := tabDs Tryd_tab, rounds := k, nt := 19, orc := fun _ => none, lp := fun i => if Nat.beq i 2 = true then some slices_IndexFunc_int_int_l2_L else (none), ct := fun _ => none, plan := fun _ => none }
noncomputable def slices_IndexFunc_int_int_fin (k : Nat) : Kn Int := finish (slices_IndexFunc_int_int_E k) [.v (.sl I), .v (.fn (.pr I T.un) T.b)] (.v I) Tryd.f147.results.toList
noncomputable def slices_IndexFunc_int_int_l2_e (k : Nat)  (n : Nat) (x0 : (List Int)) (x1 : ((Int × Unit) → Option Bool)) (x7 : Int) (x8 : Int) : Option Int := loopF (slices_IndexFunc_int_int_E k) slices_IndexFunc_int_int_l2_L (ev (slices_IndexFunc_int_int_E k) (sub (bodyOf Tryd.f147) [.r, .l, .r, .c, .c])) (kont (slices_IndexFunc_int_int_E k) (bodyOf Tryd.f147) [.r, .l, .r, .c] [] (slices_IndexFunc_int_int_fin k)) n (x0, x1, x7, x8, ())
theorem slices_IndexFunc_int_int_l2_z (k : Nat)  (x0 : (List Int)) (x1 : ((Int × Unit) → Option Bool)) (x7 : Int) (x8 : Int) : slices_IndexFunc_int_int_l2_e k 0 x0 x1 x7 x8 = none := by kernel_rfl
theorem slices_IndexFunc_int_int_l2_st (k : Nat)  (n : Nat) (x0 : (List Int)) (x1 : ((Int × Unit) → Option Bool)) (x7 : Int) (x8 : Int) : slices_IndexFunc_int_int_l2_e k (n + 1) x0 x1 x7 x8 = slices_IndexFunc_int_int_l2s k (slices_IndexFunc_int_int_l2_e k n) x0 x1 x7 x8 := by kernel_rfl
theorem slices_IndexFunc_int_int_l2_ev (k : Nat)  : ∀ (n : Nat) (x0 : (List Int)) (x1 : ((Int × Unit) → Option Bool)) (x7 : Int) (x8 : Int), slices_IndexFunc_int_int_l2_e k n x0 x1 x7 x8 = slices_IndexFunc_int_int_l2 k n x0 x1 x7 x8
  | 0, x0, x1, x7, x8 => slices_IndexFunc_int_int_l2_z k x0 x1 x7 x8
  | n + 1, x0, x1, x7, x8 => by
    have ih : (slices_IndexFunc_int_int_l2_e k n) = slices_IndexFunc_int_int_l2 k n := by funext y0 y1 y2 y3; exact slices_IndexFunc_int_int_l2_ev k n y0 y1 y2 y3
    rw [slices_IndexFunc_int_int_l2_st, ih]; rfl
theorem slices_IndexFunc_int_int_st (k : Nat) (x0 : (List Int)) (x1 : ((Int × Unit) → Option Bool)) : evFun (slices_IndexFunc_int_int_E k) [.v (.sl I), .v (.fn (.pr I T.un) T.b)] (.v I) Tryd.f147 (x0, x1, ()) = slices_IndexFunc_int_int_s k (slices_IndexFunc_int_int_l2_e k k) x0 x1 := by kernel_rfl
theorem slices_IndexFunc_int_int_ev (k : Nat) (x0 : (List Int)) (x1 : ((Int × Unit) → Option Bool)) : evFun (slices_IndexFunc_int_int_E k) [.v (.sl I), .v (.fn (.pr I T.un) T.b)] (.v I) Tryd.f147 (x0, x1, ()) = slices_IndexFunc_int_int k x0 x1 := by
  have h0 : (slices_IndexFunc_int_int_l2_e k k) = (slices_IndexFunc_int_int_l2 k k) := by funext y0 y1 y2 y3; exact slices_IndexFunc_int_int_l2_ev k k y0 y1 y2 y3
  rw [slices_IndexFunc_int_int_st, h0]; rfl
theorem slices_IndexFunc_int_int_c (k : Nat) : Contract Tryd.prog 147 (slices_IndexFunc_int_int_O k) :=
  fun_sound (c := bodyOf Tryd.f147) (tab_ok Tryd_tab_ok rfl rfl) orc_nil Tryd.func147 (by kernel_rfl) rfl (by kernel_rfl) (by decide) rfl rfl (by kernel_rfl) (by kernel_rfl) (by kernel_rfl) (fun x _ h => (slices_IndexFunc_int_int_ev k x.1 x.2.1).trans h)
end Ev
/- slices.ContainsFunc[[]int,int] -/
namespace Ev
open Go Go.Proofs
/-! slices.ContainsFunc[[]int,int] -/
def slices_ContainsFunc_int_int_s (k : Nat) (x0 : (List Int)) (x1 : ((Int × Unit) → Option Bool)) : Option Bool :=
  (slices_IndexFunc_int_int k x0 x1).bind fun r1 =>
  some (decide ((0 : Int) ≤ r1))
def slices_ContainsFunc_int_int (k : Nat) (x0 : (List Int)) (x1 : ((Int × Unit) → Option Bool)) : Option Bool := slices_ContainsFunc_int_int_s k x0 x1
noncomputable def slices_ContainsFunc_int_int_O (k : Nat) : Orc := { ps := [.v (.sl I), .v (.fn (.pr I T.un) T.b)], rt := (.v T.b), F := fun x => slices_ContainsFunc_int_int k x.1 x.2.1 }
noncomputable def slices_ContainsFunc_int_int_E (k : Nat) : Env := { ty := tabTy Tryd_tab, ds := tabDs Tryd_tab, rounds := k, nt := 9, orc := fun g => if Nat.beq g 147 = true then some (slices_IndexFunc_int_int_O k) else (none), lp := fun _ => none, ct := fun _ => none, plan := fun _ => none }
noncomputable def slices_ContainsFunc_int_int_fin (k : Nat) : Kn Bool := finish (slices_ContainsFunc_int_int_E k) [.v (.sl I), .v (.fn (.pr I T.un) T.b)] (.v T.b) Tryd.f126.results.toList
theorem slices_ContainsFunc_int_int_st (k : Nat) (x0 : (List Int)) (x1 : ((Int × Unit) → Option Bool)) : evFun (slices_ContainsFunc_int_int_E k) [.v (.sl I), .v (.fn (.pr I T.un) T.b)] (.v T.b) Tryd.f126 (x0, x1, ()) = slices_ContainsFunc_int_int_s k x0 x1 := by kernel_rfl
theorem slices_ContainsFunc_int_int_ev (k : Nat) (x0 : (List Int)) (x1 : ((Int × Unit) → Option Bool)) : evFun (slices_ContainsFunc_int_int_E k) [.v (.sl I), .v (.fn (.pr I T.un) T.b)] (.v T.b) Tryd.f126 (x0, x1, ()) = slices_ContainsFunc_int_int k x0 x1 := by
  skip
  rw [slices_ContainsFunc_int_int_st]; rfl
theorem slices_ContainsFunc_int_int_c (k : Nat) : Contract Tryd.prog 126 (slices_ContainsFunc_int_int_O k) :=
  fun_sound (c := bodyOf Tryd.f126) (tab_ok Tryd_tab_ok rfl rfl) (orc_cons (slices_IndexFunc_int_int_c k) orc_nil) Tryd.func126 (by kernel_rfl) rfl (by kernel_rfl) (by decide) rfl rfl (by kernel_rfl) (by kernel_rfl) (by kernel_rfl) (fun x _ h => (slices_ContainsFunc_int_int_ev k x.1 x.2.1).trans h)
end Ev
/- loop.example/g01207/impl.IsDie$1 -/
namespace Ev
open Go Go.Proofs
/-! impl.IsDie$1 -/
def im_IsDie_1_s (k : Nat) (x0 : Int) : Option Bool :=
  (im_in k x0 (0 : Int) (9 : Int)).bind fun r1 =>
  some (!r1)
def im_IsDie_1 (k : Nat) (x0 : Int) : Option Bool := im_IsDie_1_s k x0
noncomputable def im_IsDie_1_O (k : Nat) : Orc := { ps := [.v I], rt := (.v T.b), F := fun x => im_IsDie_1 k x.1 }
noncomputable def im_IsDie_1_E (k : Nat) : Env := { ty := tabTy Tryd_tab, ds := tabDs Tryd_tab, rounds := k, nt := 6, orc := fun g => if Nat.beq g 85 = true then some (im_in_O k) else (none), lp := fun _ => none, ct := fun _ => none, plan := fun _ => none }
noncomputable def im_IsDie_1_fin (k : Nat) : Kn Bool := finish (im_IsDie_1_E k) [.v I] (.v T.b) Tryd.f127.results.toList
theorem im_IsDie_1_st (k : Nat) (x0 : Int) : evFun (im_IsDie_1_E k) [.v I] (.v T.b) Tryd.f127 (x0, ()) = im_IsDie_1_s k x0 := by kernel_rfl
theorem im_IsDie_1_ev (k : Nat) (x0 : Int) : evFun (im_IsDie_1_E k) [.v I] (.v T.b) Tryd.f127 (x0, ()) = im_IsDie_1 k x0 := by
  skip
  rw [im_IsDie_1_st]; rfl
theorem im_IsDie_1_c (k : Nat) : Contract Tryd.prog 127 (im_IsDie_1_O k) :=
  fun_sound (c := bodyOf Tryd.f127) (tab_ok Tryd_tab_ok rfl rfl) (orc_cons (im_in_c k) orc_nil) Tryd.func127 (by kernel_rfl) rfl (by kernel_rfl) (by decide) rfl rfl (by kernel_rfl) (by kernel_rfl) (by kernel_rfl) (fun x _ h => (im_IsDie_1_ev k x.1).trans h)
end Ev
/- loop.example/g01207/impl.IsDie -/
namespace Ev
open Go Go.Proofs
/-! impl.IsDie -/
def im_IsDie_s (k : Nat) (x0 : tDie.in) : Option Bool :=
  (im_Die_faces k x0).bind fun r1 =>
  (slices_ContainsFunc_int_int k r1 (fun (a2 : (Int × Unit)) => (im_IsDie_1 k a2.1).bind fun r3 => some r3)).bind fun r4 =>
  some (!r4)
def im_IsDie (k : Nat) (x0 : tDie.in) : Option Bool := im_IsDie_s k x0
noncomputable def im_IsDie_O (k : Nat) : Orc := { ps := [.v tDie], rt := (.v T.b), F := fun x => im_IsDie k x.1 }
noncomputable def im_IsDie_E (k : Nat) : Env := { ty := tabTy Tryd_tab, ds := tabDs Tryd_tab, rounds := k, nt := 7, orc := fun g => if Nat.beq g 102 = true then some (im_Die_faces_O k) else (if Nat.beq g 126 = true then some (slices_ContainsFunc_int_int_O k) else (if Nat.beq g 127 = true then some (im_IsDie_1_O k) else (none))), lp := fun _ => none, ct := fun _ => none, plan := fun _ => none }
noncomputable def im_IsDie_fin (k : Nat) : Kn Bool := finish (im_IsDie_E k) [.v tDie] (.v T.b) Tryd.f101.results.toList
theorem im_IsDie_st (k : Nat) (x0 : tDie.in) : evFun (im_IsDie_E k) [.v tDie] (.v T.b) Tryd.f101 (x0, ()) = im_IsDie_s k x0 := by kernel_rfl
theorem im_IsDie_ev (k : Nat) (x0 : tDie.in) : evFun (im_IsDie_E k) [.v tDie] (.v T.b) Tryd.f101 (x0, ()) = im_IsDie k x0 := by
  skip
  rw [im_IsDie_st]; rfl
theorem im_IsDie_c (k : Nat) : Contract Tryd.prog 101 (im_IsDie_O k) :=
  fun_sound (c := bodyOf Tryd.f101) (tab_ok Tryd_tab_ok rfl rfl) (orc_cons (im_Die_faces_c k) (orc_cons (slices_ContainsFunc_int_int_c k) (orc_cons (im_IsDie_1_c k) orc_nil))) Tryd.func101 (by kernel_rfl) rfl (by kernel_rfl) (by decide) rfl rfl (by kernel_rfl) (by kernel_rfl) (by kernel_rfl) (fun x _ h => (im_IsDie_ev k x.1).trans h)
end Ev
/- (loop.example/g01207/impl.grid).isState -/
namespace Ev
open Go Go.Proofs
/-! (impl.grid).isState -/
def im_grid_isState_s (k : Nat) (x0 : (List (List Int))) (x1 : tState.in) : Option Bool :=
  (im_IsDie k x1.2.2.1).bind fun r1 =>
  if r1 = true then
    (im_grid_at k x0 x1.1 x1.2.1).bind fun r2 =>
    some (decide (r2 = (46 : Int)))
  else
    some false
def im_grid_isState (k : Nat) (x0 : (List (List Int))) (x1 : tState.in) : Option Bool := im_grid_isState_s k x0 x1
noncomputable def im_grid_isState_O (k : Nat) : Orc := { ps := [.v (.sl T.s), .v tState], rt := (.v T.b), F := fun x => im_grid_isState k x.1 x.2.1 }
noncomputable def im_grid_isState_E (k : Nat) : Env := { ty := tabTy Tryd_tab, ds := tabDs Tryd_tab, rounds := k, nt := 17, orc := fun g => if Nat.beq g 70 = true then some (im_grid_at_O k) else (if Nat.beq g 101 = true then some (im_IsDie_O k) else (none)), lp := fun _ => none, ct := fun _ => none, plan := fun _ => none }
noncomputable def im_grid_isState_fin (k : Nat) : Kn Bool := finish (im_grid_isState_E k) [.v (.sl T.s), .v tState] (.v T.b) Tryd.f121.results.toList
theorem im_grid_isState_st (k : Nat) (x0 : (List (List Int))) (x1 : tState.in) : evFun (im_grid_isState_E k) [.v (.sl T.s), .v tState] (.v T.b) Tryd.f121 (x0, x1, ()) = im_grid_isState_s k x0 x1 := by kernel_rfl
theorem im_grid_isState_ev (k : Nat) (x0 : (List (List Int))) (x1 : tState.in) : evFun (im_grid_isState_E k) [.v (.sl T.s), .v tState] (.v T.b) Tryd.f121 (x0, x1, ()) = im_grid_isState k x0 x1 := by
  skip
  rw [im_grid_isState_st]; rfl
theorem im_grid_isState_c (k : Nat) : Contract Tryd.prog 121 (im_grid_isState_O k) :=
  fun_sound (c := bodyOf Tryd.f121) (tab_ok Tryd_tab_ok rfl rfl) (orc_cons (im_grid_at_c k) (orc_cons (im_IsDie_c k) orc_nil)) Tryd.func121 (by kernel_rfl) rfl (by kernel_rfl) (by decide) rfl rfl (by kernel_rfl) (by kernel_rfl) (by kernel_rfl) (fun x _ h => (im_grid_isState_ev k x.1 x.2.1).trans h)
end Ev
/- loop.example/g01207/impl.onBoard -/
namespace Ev
open Go Go.Proofs
/-! impl.onBoard -/
def im_onBoard_s (k : Nat) (x0 : (List Int)) (x1 : tState.in) : Option ((List (List Int)) × (Bool × Unit)) :=
  (im_board k x0).bind fun r1 =>
  if r1.2.1 = true then
    (im_grid_isState k r1.1 x1).bind fun r2 =>
    some (r1.1, r2, ())
  else
    some (r1.1, false, ())
def im_onBoard (k : Nat) (x0 : (List Int)) (x1 : tState.in) : Option ((List (List Int)) × (Bool × Unit)) := im_onBoard_s k x0 x1
noncomputable def im_onBoard_O (k : Nat) : Orc := { ps := [.v T.s, .v tState], rt := (.pr (.v (.sl T.s)) (.pr (.v T.b) .un)), F := fun x => im_onBoard k x.1 x.2.1 }
noncomputable def im_onBoard_E (k : Nat) : Env := { ty := tabTy Tryd_tab, ds := tabDs Tryd_tab, rounds := k, nt := 20, orc := fun g => if Nat.beq g 49 = true then some (im_board_O k) else (if Nat.beq g 121 = true then some (im_grid_isState_O k) else (none)), lp := fun _ => none, ct := fun _ => none, plan := fun _ => none }
noncomputable def im_onBoard_fin (k : Nat) : Kn ((List (List Int)) × (Bool × Unit)) := finish (im_onBoard_E k) [.v T.s, .v tState] (.pr (.v (.sl T.s)) (.pr (.v T.b) .un)) Tryd.f90.results.toList
theorem im_onBoard_st (k : Nat) (x0 : (List Int)) (x1 : tState.in) : evFun (im_onBoard_E k) [.v T.s, .v tState] (.pr (.v (.sl T.s)) (.pr (.v T.b) .un)) Tryd.f90 (x0, x1, ()) = im_onBoard_s k x0 x1 := by kernel_rfl
theorem im_onBoard_ev (k : Nat) (x0 : (List Int)) (x1 : tState.in) : evFun (im_onBoard_E k) [.v T.s, .v tState] (.pr (.v (.sl T.s)) (.pr (.v T.b) .un)) Tryd.f90 (x0, x1, ()) = im_onBoard k x0 x1 := by
  skip
  rw [im_onBoard_st]; rfl
theorem im_onBoard_c (k : Nat) : Contract Tryd.prog 90 (im_onBoard_O k) :=
  fun_sound (c := bodyOf Tryd.f90) (tab_ok Tryd_tab_ok rfl rfl) (orc_cons (im_board_c k) (orc_cons (im_grid_isState_c k) orc_nil)) Tryd.func90 (by kernel_rfl) rfl (by kernel_rfl) (by decide) rfl rfl (by kernel_rfl) (by kernel_rfl) (by kernel_rfl) (fun x _ h => (im_onBoard_ev k x.1 x.2.1).trans h)
end Ev
/- Plain laws: cells, dice and states on a board. -/
namespace Ev
open Go

theorem nd {p : Prop} [Decidable p] (h : ¬p) : (!decide p) = true := by simp [h]
theorem nnd {p : Prop} [Decidable p] (h : p) : ¬((!decide p) = true) := by simp [h]
theorem dt {p : Prop} [Decidable p] (h : p) : decide p = true := by simp [h]
theorem ndt {p : Prop} [Decidable p] (h : ¬p) : ¬(decide p = true) := by simp [h]
theorem sdd {p q : Prop} [Decidable p] [Decidable q] (h : p ↔ q) : some (decide p) = some (decide q) := congrArg some (decide_eq_decide.2 h)
/-- Rows of one length. -/
structure Rc (g : List (List Int)) (w h : Nat) : Prop where
  len : g.length = h
  row : ∀ r ∈ g, r.length = w
  w1 : 1 ≤ w
  w7 : w ≤ 7
  h1 : 1 ≤ h
  h7 : h ≤ 7
theorem Bd.rc {cs s : List Int} {w h : Nat} (b : Bd cs s w h) : Rc (spl s) w h := ⟨b.len, fun r hr => (b.row r hr).1, b.w1, b.w7, b.h1, b.h7⟩
/-- What a cell is, 0 where there is none. -/
def cell (g : List (List Int)) (x y : Int) : Int :=
  if (0 ≤ y ∧ y < (g.length : Int)) ∧ (0 ≤ x ∧ x < ((g.getD 0 []).length : Int)) then (g.getD y.toNat []).getD x.toNat 0 else 0
theorem Rc.row0 {g : List (List Int)} {w h : Nat} (r : Rc g w h) : (g.getD 0 []).length = w := by
  have := r.len; have := r.h1
  rw [gd _ _ _ (by omega)]; exact r.row _ (List.getElem_mem _)
theorem Rc.rowj {g : List (List Int)} {w h : Nat} (r : Rc g w h) {j : Nat} (_hj : j < h) : (g.getD j []).length = w := by
  have := r.len
  rw [gd _ _ _ (by omega)]; exact r.row _ (List.getElem_mem _)
theorem has_is (k : Nat) {g : List (List Int)} {w h : Nat} (r : Rc g w h) (x y : Int) : im_grid_has k g x y = some (decide ((0 ≤ y ∧ y < (h : Int)) ∧ (0 ≤ x ∧ x < (w : Int)))) := by
  have := r.len; have := r.h1; have := r.h7; have := r.w7; have h0 := r.row0
  have e0 : rdT T.s g 0 = g.getD 0 [] := rfl
  show (im_in k y 0 (IntKind.i64.wrap ((g.length : Int) - 1))).bind _ = _
  rw [wr (by omega), im_in_is, Option.bind_some]
  by_cases h1 : 0 ≤ y ∧ y < (h : Int)
  · rw [if_pos (by simp; omega), inb_eq (by omega), e0, h0, wr (by omega), im_in_is, Option.bind_some]
    exact sdd (by omega)
  · rw [if_neg (by simp; omega), decide_eq_false (fun q => h1 q.1)]
theorem at_is (k : Nat) {g : List (List Int)} {w h : Nat} (r : Rc g w h) (x y : Int) : im_grid_at k g x y = some (cell g x y) := by
  have hl := r.len; have h0 := r.row0
  show (im_grid_has k g x y).bind _ = _
  unfold cell
  rw [has_is k r, Option.bind_some, h0, hl]
  by_cases h1 : (0 ≤ y ∧ y < (h : Int)) ∧ (0 ≤ x ∧ x < (w : Int))
  · have e0 : rdT T.s g y = g.getD y.toNat [] := rfl
    have h2 := r.rowj (j := y.toNat) (by omega)
    rw [if_neg (by simp [h1]), if_pos h1, inb_eq (by omega), e0, h2, inb_eq (by omega)]
  · rw [if_pos (nd h1), if_neg h1]
theorem flat_getD {w : Nat} : ∀ (g : List (List Int)) (x y : Nat), (∀ r ∈ g, r.length = w) → x < w → y < g.length → g.flatten.getD (y * w + x) 0 = (g.getD y []).getD x 0
  | [], _, _, _, _, h => by cases h
  | r :: g, x, 0, hr, hx, _ => by
    have := hr r List.mem_cons_self
    simp [List.getD, List.getElem?_append, this, hx]
  | r :: g, x, y + 1, hr, hx, hy => by
    have h1 := hr r List.mem_cons_self
    have ih := flat_getD g x y (fun q hq => hr q (List.mem_cons_of_mem _ hq)) hx (by simpa using hy)
    have e : (y + 1) * w + x = r.length + (y * w + x) := by rw [h1, Nat.add_mul]; omega
    rw [e, List.flatten_cons]
    have : ∀ j, (r ++ g.flatten).getD (r.length + j) 0 = g.flatten.getD j 0 := by intro j; simp [List.getD, List.getElem?_append_right]
    rw [this, ih]; rfl
def gr (g : List (List Int)) (w h : Nat) : tboGrid.in := ((w : Int), (h : Int), g.flatten, ())
theorem boCell_is (k : Nat) {g : List (List Int)} {w h : Nat} (r : Rc g w h) (x y : Int) : sp_boCell k (gr g w h) x y = some (decide ((0 ≤ y ∧ y < (h : Int)) ∧ (0 ≤ x ∧ x < (w : Int)))) := by
  have := r.h1; have := r.h7; have := r.w7; have := r.w1
  show (sp_l1In k x 0 (IntKind.i64.wrap ((w : Int) - 1))).bind _ = _
  rw [wr (by omega), sp_l1In_is, Option.bind_some]
  show (if _ then (sp_l1In k y 0 (IntKind.i64.wrap ((h : Int) - 1))).bind _ else _) = _
  by_cases h2 : 0 ≤ x ∧ x < (w : Int)
  · rw [if_pos (by simp; omega), wr (by omega), sp_l1In_is, Option.bind_some]
    exact sdd (by omega)
  · rw [if_neg (by simp; omega), decide_eq_false (fun q => h2 q.2)]
theorem boFloor_is (k : Nat) {g : List (List Int)} {w h : Nat} (r : Rc g w h) (x y : Int) : sp_boFloor k (gr g w h) x y = some (decide (cell g x y = 46)) := by
  have h7 := r.h7; have w7 := r.w7; have hl := r.len; have h0 := r.row0
  show (sp_boCell k (gr g w h) x y).bind _ = _
  rw [boCell_is k r, Option.bind_some]
  unfold cell
  rw [h0, hl]
  by_cases h1 : (0 ≤ y ∧ y < (h : Int)) ∧ (0 ≤ x ∧ x < (w : Int))
  · rw [if_pos (by simp [h1]), if_pos h1]
    obtain ⟨⟨a1, a2⟩, b1, b2⟩ := h1
    obtain ⟨y, rfl⟩ := Int.eq_ofNat_of_zero_le a1
    obtain ⟨x, rfl⟩ := Int.eq_ofNat_of_zero_le b1
    have hm : y * w + w ≤ w * h := by
      have : (y + 1) * w ≤ h * w := Nat.mul_le_mul_right w (by omega)
      rw [Nat.add_mul, Nat.mul_comm h w] at this; omega
    have hb : w * h ≤ 7 * 7 := Nat.mul_le_mul w7 h7
    have e1 : IntKind.i64.wrap ((y : Int) * (gr g w h).1) = ((y * w : Nat) : Int) := by
      show IntKind.i64.wrap ((y : Int) * (w : Int)) = _
      rw [← Int.natCast_mul, wr (by omega)]
    have e2 : IntKind.i64.wrap (((y * w : Nat) : Int) + (x : Int)) = ((y * w + x : Nat) : Int) := by rw [wr (by omega)]; simp
    rw [e1, e2, inb_eq (by show _ ∧ _ < ((g.flatten.length : Nat) : Int); rw [flat_len g r.row, hl]; omega)]
    have e3 : rdT (.i .u8) (gr g w h).2.2.1 ((y * w + x : Nat) : Int) = g.flatten.getD (y * w + x) 0 := rfl
    rw [e3, flat_getD g x y r.row (by omega) (by omega)]
    rfl
  · rw [if_neg (by simpa using h1), if_neg h1]; rfl

/-! ### Dice -/
def fidx {α : Type} (p : α → Bool) : List α → Int
  | [] => -1
  | x :: l => if p x = true then 0 else if fidx p l = -1 then -1 else fidx p l + 1
theorem fidx_ge {α : Type} (p : α → Bool) : ∀ l, -1 ≤ fidx p l
  | [] => by simp [fidx]
  | x :: l => by
    have := fidx_ge p l
    unfold fidx
    split
    · omega
    · split <;> omega
theorem fidx_lt {α : Type} (p : α → Bool) : ∀ l, fidx p l < l.length
  | [] => by simp [fidx]
  | x :: l => by
    have := fidx_lt p l
    unfold fidx
    simp only [List.length_cons, Int.natCast_add]
    split
    · omega
    · split <;> omega
theorem fidx_all {α : Type} (p : α → Bool) : ∀ l, fidx p l = -1 ↔ ∀ x ∈ l, p x = false
  | [] => by simp [fidx]
  | x :: l => by
    have h1 := fidx_ge p l
    unfold fidx
    by_cases h : p x = true
    · rw [if_pos h]; simp [h]
    · rw [if_neg h]
      have ih := fidx_all p l
      by_cases h2 : fidx p l = -1
      · rw [if_pos h2]; simp only [List.mem_cons, forall_eq_or_imp, true_iff]; exact ⟨by simpa using h, ih.1 h2⟩
      · rw [if_neg h2]
        constructor
        · omega
        · intro q; exact absurd (ih.2 (fun y hy => q y (List.mem_cons_of_mem _ hy))) h2
theorem idxInt_loop (k : Nat) (p : Int → Bool) (f : Int × Unit → Option Bool) (hf : ∀ x, f (x, ()) = some (p x)) (l : List Int) (hl : l.length ≤ 1000000000) : ∀ (d n j : Nat), l.length = j + d → d < n →
    slices_IndexFunc_int_int_l2 k n l f (l.length : Int) (j : Int) = some (if fidx p (l.drop j) = -1 then -1 else (j : Int) + fidx p (l.drop j))
  | 0, n + 1, j, h, _ => by
    show slices_IndexFunc_int_int_l2s k _ _ _ _ _ = _
    unfold slices_IndexFunc_int_int_l2s
    rw [if_neg (by simp; omega), List.drop_of_length_le (by omega)]; rfl
  | d + 1, n + 1, j, h, hn => by
    show slices_IndexFunc_int_int_l2s k _ _ _ _ _ = _
    unfold slices_IndexFunc_int_int_l2s
    have hd := getD_drop l j 0 (by omega)
    have e1 : rdT I l (j : Int) = l.getD j 0 := rfl
    have ih := idxInt_loop k p f hf l hl d n (j + 1) (by omega) (by omega)
    have hg := fidx_ge p (l.drop (j + 1))
    rw [if_pos (by simp; omega), inb_eq (by omega), e1, hf, Option.bind_some, hd]
    unfold fidx
    by_cases hp : p (l.getD j 0) = true
    · rw [if_pos hp, if_pos hp, if_neg (by omega)]; simp
    · rw [if_neg hp, if_neg hp, wr (by omega)]
      refine (show _ = _ from ih).trans ?_
      by_cases h2 : fidx p (l.drop (j + 1)) = -1
      · rw [if_pos h2, if_pos h2, if_pos rfl]
      · rw [if_neg h2, if_neg h2, if_neg (by omega)]; congr 1; omega
theorem l1All_loop (k : Nat) (a b : Int) (l : List Int) (hl : l.length ≤ 1000000000) : ∀ (d n j : Nat), l.length = j + d → d < n →
    sp_l1All_l2 k n a b l (l.length : Int) (j : Int) = some ((l.drop j).all fun c => decide (a ≤ c ∧ c ≤ b))
  | 0, n + 1, j, h, _ => by
    show sp_l1All_l2s k _ _ _ _ _ _ = _
    unfold sp_l1All_l2s
    rw [if_neg (by simp; omega), List.drop_of_length_le (by omega)]; rfl
  | d + 1, n + 1, j, h, hn => by
    show sp_l1All_l2s k _ _ _ _ _ _ = _
    unfold sp_l1All_l2s
    have hd := getD_drop l j 0 (by omega)
    have e1 : rdT I l (j : Int) = l.getD j 0 := rfl
    have ih := l1All_loop k a b l hl d n (j + 1) (by omega) (by omega)
    rw [if_pos (by simp; omega), inb_eq (by omega), e1, sp_l1In_is, Option.bind_some, hd, List.all_cons]
    by_cases hp : a ≤ l.getD j 0 ∧ l.getD j 0 ≤ b
    · rw [if_neg (nnd hp), wr (by omega)]
      refine (show _ = _ from ih).trans ?_
      rw [decide_eq_true hp, Bool.true_and]
    · rw [if_pos (nd hp), decide_eq_false hp, Bool.false_and]
def faces (d : tDie.in) : List Int := [d.1, d.2.1, d.2.2.1, d.2.2.2.1, d.2.2.2.2.1, d.2.2.2.2.2.1]
def dieOk (d : tDie.in) : Bool := (faces d).all fun c => decide (0 ≤ c ∧ c ≤ 9)
theorem diGood_is (k : Nat) (_hk : 2097152 ≤ k) (d : tDie.in) : sp_diGood k d = some (dieOk d) := by
  show (sp_l1All k (faces d) 0 9).bind _ = _
  have : sp_l1All k (faces d) 0 9 = some (dieOk d) := l1All_loop k 0 9 (faces d) (by simp [faces]) 6 k 0 rfl (by omega)
  rw [this]; rfl
theorem isDie_is (k : Nat) (_hk : 2097152 ≤ k) (d : tDie.in) : im_IsDie k d = some (dieOk d) := by
  have h1 := idxInt_loop k (fun c => !decide (0 ≤ c ∧ c ≤ 9)) (fun a => (im_IsDie_1 k a.1).bind fun r => some r) (fun x => by
    show (Option.bind ((im_in k x 0 9).bind _) _) = _
    rw [im_in_is]; rfl) (faces d) (by simp [faces]) 6 k 0 rfl (by omega)
  have h2 := fidx_ge (fun c : Int => !decide (0 ≤ c ∧ c ≤ 9)) (faces d)
  have h3 := fidx_all (fun c : Int => !decide (0 ≤ c ∧ c ≤ 9)) (faces d)
  show (Option.bind (Option.bind (slices_IndexFunc_int_int_l2 k k (faces d) _ ((faces d).length : Int) ((0 : Nat) : Int)) _) _) = _
  rw [h1, Option.bind_some, Option.bind_some, List.drop_zero]
  congr 1
  unfold dieOk
  by_cases h : fidx (fun c : Int => !decide (0 ≤ c ∧ c ≤ 9)) (faces d) = -1
  · rw [if_pos h]
    have := h3.1 h
    rw [List.all_eq_true.2 (fun x hx => by simpa using this x hx)]; rfl
  · rw [if_neg h]
    have e : ((faces d).all fun c => decide (0 ≤ c ∧ c ≤ 9)) = false := by
      rw [Bool.eq_false_iff]
      intro q
      exact h (h3.2 fun x hx => by simpa using List.all_eq_true.1 q x hx)
    rw [e, decide_eq_true (by omega)]; rfl
/-- A state stands on a board of some rows. -/
def stOk (g : List (List Int)) (s : tState.in) : Bool := dieOk s.2.2.1 && decide (cell g s.1 s.2.1 = 46)
theorem boState_is (k : Nat) (hk : 2097152 ≤ k) {g : List (List Int)} {w h : Nat} (r : Rc g w h) (s : tState.in) : sp_boState k (gr g w h) s = some (stOk g s) := by
  show (sp_boFloor k (gr g w h) s.1 s.2.1).bind _ = _
  rw [boFloor_is k r, Option.bind_some, diGood_is k hk]
  unfold stOk
  by_cases h1 : cell g s.1 s.2.1 = 46
  · rw [if_pos (by simpa using h1)]; simp [h1]
  · rw [if_neg (by simpa using h1)]; simp [h1]
theorem isState_is (k : Nat) (hk : 2097152 ≤ k) {g : List (List Int)} {w h : Nat} (r : Rc g w h) (s : tState.in) : im_grid_isState k g s = some (stOk g s) := by
  show (im_IsDie k s.2.2.1).bind _ = _
  rw [isDie_is k hk, Option.bind_some, at_is k r]
  unfold stOk
  cases dieOk s.2.2.1
  · rfl
  · rfl
theorem board_is (k : Nat) (hk : 2097152 ≤ k) (s : List Int) (hs : s.length ≤ 1048576) :
    (∃ w h, Bd [46, 35] s w h ∧ im_board k s = some (spl s, true, ()) ∧ sp_boRead k s = some (gr (spl s) w h, true, ())) ∨
    ∃ g, im_board k s = some (g, false, ()) ∧ sp_boRead k s = some (gz, false, ()) := by
  rcases rowsOf_is k hk s [46, 35] hs (by decide) (by decide) with ⟨w, h, b, e⟩ | ⟨nb, g, e⟩ <;> rcases boRead_is k hk s with ⟨w', h', b', e'⟩ | ⟨nb', e'⟩
  · exact .inl ⟨w', h', b', by show (im_rowsOf k s [46, 35]).bind _ = _; rw [e]; rfl, e'⟩
  · exact absurd ⟨w, h, b⟩ nb'
  · exact absurd ⟨w', h', b'⟩ nb
  · exact .inr ⟨g, by show (im_rowsOf k s [46, 35]).bind _ = _; rw [e]; rfl, e'⟩
theorem asked_is (k : Nat) (hk : 2097152 ≤ k) (s : List Int) (hs : s.length ≤ 1048576) (st : tState.in) :
    (∃ w h, Bd [46, 35] s w h ∧ im_board k s = some (spl s, true, ()) ∧ sp_boRead k s = some (gr (spl s) w h, true, ()) ∧ im_onBoard k s st = some (spl s, stOk (spl s) st, ()) ∧ sp_boAsked k s st = some (gr (spl s) w h, stOk (spl s) st, ())) ∨
    ∃ g, im_board k s = some (g, false, ()) ∧ im_onBoard k s st = some (g, false, ()) ∧ sp_boAsked k s st = some (gz, false, ()) := by
  rcases board_is k hk s hs with ⟨w, h, b, e1, e2⟩ | ⟨g, e1, e2⟩
  · refine .inl ⟨w, h, b, e1, e2, ?_, ?_⟩
    · show (im_board k s).bind _ = _
      rw [e1, Option.bind_some, if_pos rfl, isState_is k hk b.rc]; rfl
    · show (sp_boRead k s).bind _ = _
      rw [e2, Option.bind_some, if_pos rfl, boState_is k hk b.rc]; rfl
  · refine .inr ⟨g, e1, ?_, ?_⟩
    · show (im_board k s).bind _ = _
      rw [e1]; rfl
    · show (sp_boRead k s).bind _ = _
      rw [e2]; rfl
end Ev
/- loop.example/g01207/spec.puGood -/
namespace Ev
open Go Go.Proofs
/-! spec.puGood -/
def sp_puGood_s (k : Nat) (x0 : tPuzzle.in) : Option Bool :=
  (sp_boAsked k x0.1 x0.2.1).bind fun r1 =>
  if r1.2.1 = true then
    (sp_boFloor k r1.1 x0.2.2.1 x0.2.2.2.1).bind fun r2 =>
    if r2 = true then
      (sp_l1In k x0.2.2.2.2.1 (0 : Int) (9 : Int)).bind fun r3 =>
      some r3
    else
      some false
  else
    some false
def sp_puGood (k : Nat) (x0 : tPuzzle.in) : Option Bool := sp_puGood_s k x0
noncomputable def sp_puGood_O (k : Nat) : Orc := { ps := [.v tPuzzle], rt := (.v T.b), F := fun x => sp_puGood k x.1 }
noncomputable def sp_puGood_E (k : Nat) : Env := { ty := tabTy Tryd_tab, ds := tabDs Tryd_tab, rounds := k, nt := 27, orc := fun g => if Nat.beq g 65 = true then some (sp_boAsked_O k) else (if Nat.beq g 82 = true then some (sp_l1In_O k) else (if Nat.beq g 88 = true then some (sp_boFloor_O k) else (none))), lp := fun _ => none, ct := fun _ => none, plan := fun _ => none }
noncomputable def sp_puGood_fin (k : Nat) : Kn Bool := finish (sp_puGood_E k) [.v tPuzzle] (.v T.b) Tryd.f43.results.toList
theorem sp_puGood_st (k : Nat) (x0 : tPuzzle.in) : evFun (sp_puGood_E k) [.v tPuzzle] (.v T.b) Tryd.f43 (x0, ()) = sp_puGood_s k x0 := by kernel_rfl
theorem sp_puGood_ev (k : Nat) (x0 : tPuzzle.in) : evFun (sp_puGood_E k) [.v tPuzzle] (.v T.b) Tryd.f43 (x0, ()) = sp_puGood k x0 := by
  skip
  rw [sp_puGood_st]; rfl
theorem sp_puGood_c (k : Nat) : Contract Tryd.prog 43 (sp_puGood_O k) :=
  fun_sound (c := bodyOf Tryd.f43) (tab_ok Tryd_tab_ok rfl rfl) (orc_cons (sp_boAsked_c k) (orc_cons (sp_l1In_c k) (orc_cons (sp_boFloor_c k) orc_nil))) Tryd.func43 (by kernel_rfl) rfl (by kernel_rfl) (by decide) rfl rfl (by kernel_rfl) (by kernel_rfl) (by kernel_rfl) (fun x _ h => (sp_puGood_ev k x.1).trans h)
end Ev
/- loop.example/g01207/impl.IsPuzzle -/
namespace Ev
open Go Go.Proofs
/-! impl.IsPuzzle -/
def im_IsPuzzle_s (k : Nat) (x0 : tPuzzle.in) : Option Bool :=
  (im_onBoard k x0.1 x0.2.1).bind fun r1 =>
  if r1.2.1 = true then
    (im_grid_at k r1.1 x0.2.2.1 x0.2.2.2.1).bind fun r2 =>
    if (decide (r2 = (46 : Int))) = true then
      (im_in k x0.2.2.2.2.1 (0 : Int) (9 : Int)).bind fun r3 =>
      some r3
    else
      some false
  else
    some false
def im_IsPuzzle (k : Nat) (x0 : tPuzzle.in) : Option Bool := im_IsPuzzle_s k x0
noncomputable def im_IsPuzzle_O (k : Nat) : Orc := { ps := [.v tPuzzle], rt := (.v T.b), F := fun x => im_IsPuzzle k x.1 }
noncomputable def im_IsPuzzle_E (k : Nat) : Env := { ty := tabTy Tryd_tab, ds := tabDs Tryd_tab, rounds := k, nt := 28, orc := fun g => if Nat.beq g 70 = true then some (im_grid_at_O k) else (if Nat.beq g 85 = true then some (im_in_O k) else (if Nat.beq g 90 = true then some (im_onBoard_O k) else (none))), lp := fun _ => none, ct := fun _ => none, plan := fun _ => none }
noncomputable def im_IsPuzzle_fin (k : Nat) : Kn Bool := finish (im_IsPuzzle_E k) [.v tPuzzle] (.v T.b) Tryd.f48.results.toList
theorem im_IsPuzzle_st (k : Nat) (x0 : tPuzzle.in) : evFun (im_IsPuzzle_E k) [.v tPuzzle] (.v T.b) Tryd.f48 (x0, ()) = im_IsPuzzle_s k x0 := by kernel_rfl
theorem im_IsPuzzle_ev (k : Nat) (x0 : tPuzzle.in) : evFun (im_IsPuzzle_E k) [.v tPuzzle] (.v T.b) Tryd.f48 (x0, ()) = im_IsPuzzle k x0 := by
  skip
  rw [im_IsPuzzle_st]; rfl
theorem im_IsPuzzle_c (k : Nat) : Contract Tryd.prog 48 (im_IsPuzzle_O k) :=
  fun_sound (c := bodyOf Tryd.f48) (tab_ok Tryd_tab_ok rfl rfl) (orc_cons (im_grid_at_c k) (orc_cons (im_in_c k) (orc_cons (im_onBoard_c k) orc_nil))) Tryd.func48 (by kernel_rfl) rfl (by kernel_rfl) (by decide) rfl rfl (by kernel_rfl) (by kernel_rfl) (by kernel_rfl) (fun x _ h => (im_IsPuzzle_ev k x.1).trans h)
end Ev
/- loop.example/g01207/laws.szPuzzle -/
namespace Ev
open Go Go.Proofs
/-! laws.szPuzzle -/
def la_szPuzzle_s (_k : Nat) (x0 : tPuzzle.in) (x1 : Int) : Option Int :=
  if (decide ((IntKind.i64.wrap (x1 - (x0.1.length : Int))) < (0 : Int))) = true then
    some (-1 : Int)
  else
    some (IntKind.i64.wrap (x1 - (x0.1.length : Int)))
def la_szPuzzle (k : Nat) (x0 : tPuzzle.in) (x1 : Int) : Option Int := la_szPuzzle_s k x0 x1
noncomputable def la_szPuzzle_O (k : Nat) : Orc := { ps := [.v tPuzzle, .v I], rt := (.v I), F := fun x => la_szPuzzle k x.1 x.2.1 }
noncomputable def la_szPuzzle_E (k : Nat) : Env := { ty := tabTy Tryd_tab, ds := tabDs Tryd_tab, rounds := k, nt := 13, orc := fun _ => none, lp := fun _ => none, ct := fun _ => none, plan := fun _ => none }
noncomputable def la_szPuzzle_fin (k : Nat) : Kn Int := finish (la_szPuzzle_E k) [.v tPuzzle, .v I] (.v I) Tryd.f13.results.toList
theorem la_szPuzzle_st (k : Nat) (x0 : tPuzzle.in) (x1 : Int) : evFun (la_szPuzzle_E k) [.v tPuzzle, .v I] (.v I) Tryd.f13 (x0, x1, ()) = la_szPuzzle_s k x0 x1 := by kernel_rfl
theorem la_szPuzzle_ev (k : Nat) (x0 : tPuzzle.in) (x1 : Int) : evFun (la_szPuzzle_E k) [.v tPuzzle, .v I] (.v I) Tryd.f13 (x0, x1, ()) = la_szPuzzle k x0 x1 := by
  skip
  rw [la_szPuzzle_st]; rfl
theorem la_szPuzzle_c (k : Nat) : Contract Tryd.prog 13 (la_szPuzzle_O k) :=
  fun_sound (c := bodyOf Tryd.f13) (tab_ok Tryd_tab_ok rfl rfl) orc_nil Tryd.func13 (by kernel_rfl) rfl (by kernel_rfl) (by decide) rfl rfl (by kernel_rfl) (by kernel_rfl) (by kernel_rfl) (fun x _ h => (la_szPuzzle_ev k x.1 x.2.1).trans h)
end Ev
/- loop.example/g01207/laws.toDie -/
namespace Ev
open Go Go.Proofs
/-! laws.toDie -/
def la_toDie_s (_k : Nat) (x0 : tDie.in) : Option tDie.in :=
  some (x0.1, x0.2.1, x0.2.2.1, x0.2.2.2.1, x0.2.2.2.2.1, x0.2.2.2.2.2.1, ())
def la_toDie (k : Nat) (x0 : tDie.in) : Option tDie.in := la_toDie_s k x0
noncomputable def la_toDie_O (k : Nat) : Orc := { ps := [.v tDie], rt := (.v tDie), F := fun x => la_toDie k x.1 }
noncomputable def la_toDie_E (k : Nat) : Env := { ty := tabTy Tryd_tab, ds := tabDs Tryd_tab, rounds := k, nt := 23, orc := fun _ => none, lp := fun _ => none, ct := fun _ => none, plan := fun _ => none }
noncomputable def la_toDie_fin (k : Nat) : Kn tDie.in := finish (la_toDie_E k) [.v tDie] (.v tDie) Tryd.f60.results.toList
theorem la_toDie_st (k : Nat) (x0 : tDie.in) : evFun (la_toDie_E k) [.v tDie] (.v tDie) Tryd.f60 (x0, ()) = la_toDie_s k x0 := by kernel_rfl
theorem la_toDie_ev (k : Nat) (x0 : tDie.in) : evFun (la_toDie_E k) [.v tDie] (.v tDie) Tryd.f60 (x0, ()) = la_toDie k x0 := by
  skip
  rw [la_toDie_st]; rfl
theorem la_toDie_c (k : Nat) : Contract Tryd.prog 60 (la_toDie_O k) :=
  fun_sound (c := bodyOf Tryd.f60) (tab_ok Tryd_tab_ok rfl rfl) orc_nil Tryd.func60 (by kernel_rfl) rfl (by kernel_rfl) (by decide) rfl rfl (by kernel_rfl) (by kernel_rfl) (by kernel_rfl) (fun x _ h => (la_toDie_ev k x.1).trans h)
end Ev
/- loop.example/g01207/laws.toState -/
namespace Ev
open Go Go.Proofs
/-! laws.toState -/
def la_toState_s (k : Nat) (x0 : tState.in) : Option tState.in :=
  (la_toDie k x0.2.2.1).bind fun r1 =>
  some (x0.1, x0.2.1, r1, ())
def la_toState (k : Nat) (x0 : tState.in) : Option tState.in := la_toState_s k x0
noncomputable def la_toState_O (k : Nat) : Orc := { ps := [.v tState], rt := (.v tState), F := fun x => la_toState k x.1 }
noncomputable def la_toState_E (k : Nat) : Env := { ty := tabTy Tryd_tab, ds := tabDs Tryd_tab, rounds := k, nt := 15, orc := fun g => if Nat.beq g 60 = true then some (la_toDie_O k) else (none), lp := fun _ => none, ct := fun _ => none, plan := fun _ => none }
noncomputable def la_toState_fin (k : Nat) : Kn tState.in := finish (la_toState_E k) [.v tState] (.v tState) Tryd.f24.results.toList
theorem la_toState_st (k : Nat) (x0 : tState.in) : evFun (la_toState_E k) [.v tState] (.v tState) Tryd.f24 (x0, ()) = la_toState_s k x0 := by kernel_rfl
theorem la_toState_ev (k : Nat) (x0 : tState.in) : evFun (la_toState_E k) [.v tState] (.v tState) Tryd.f24 (x0, ()) = la_toState k x0 := by
  skip
  rw [la_toState_st]; rfl
theorem la_toState_c (k : Nat) : Contract Tryd.prog 24 (la_toState_O k) :=
  fun_sound (c := bodyOf Tryd.f24) (tab_ok Tryd_tab_ok rfl rfl) (orc_cons (la_toDie_c k) orc_nil) Tryd.func24 (by kernel_rfl) rfl (by kernel_rfl) (by decide) rfl rfl (by kernel_rfl) (by kernel_rfl) (by kernel_rfl) (fun x _ h => (la_toState_ev k x.1).trans h)
end Ev
/- loop.example/g01207/laws.toPuzzle -/
namespace Ev
open Go Go.Proofs
/-! laws.toPuzzle -/
def la_toPuzzle_s (k : Nat) (x0 : tPuzzle.in) : Option tPuzzle.in :=
  (la_toState k x0.2.1).bind fun r1 =>
  some (x0.1, r1, x0.2.2.1, x0.2.2.2.1, x0.2.2.2.2.1, ())
def la_toPuzzle (k : Nat) (x0 : tPuzzle.in) : Option tPuzzle.in := la_toPuzzle_s k x0
noncomputable def la_toPuzzle_O (k : Nat) : Orc := { ps := [.v tPuzzle], rt := (.v tPuzzle), F := fun x => la_toPuzzle k x.1 }
noncomputable def la_toPuzzle_E (k : Nat) : Env := { ty := tabTy Tryd_tab, ds := tabDs Tryd_tab, rounds := k, nt := 21, orc := fun g => if Nat.beq g 24 = true then some (la_toState_O k) else (none), lp := fun _ => none, ct := fun _ => none, plan := fun _ => none }
noncomputable def la_toPuzzle_fin (k : Nat) : Kn tPuzzle.in := finish (la_toPuzzle_E k) [.v tPuzzle] (.v tPuzzle) Tryd.f15.results.toList
theorem la_toPuzzle_st (k : Nat) (x0 : tPuzzle.in) : evFun (la_toPuzzle_E k) [.v tPuzzle] (.v tPuzzle) Tryd.f15 (x0, ()) = la_toPuzzle_s k x0 := by kernel_rfl
theorem la_toPuzzle_ev (k : Nat) (x0 : tPuzzle.in) : evFun (la_toPuzzle_E k) [.v tPuzzle] (.v tPuzzle) Tryd.f15 (x0, ()) = la_toPuzzle k x0 := by
  skip
  rw [la_toPuzzle_st]; rfl
theorem la_toPuzzle_c (k : Nat) : Contract Tryd.prog 15 (la_toPuzzle_O k) :=
  fun_sound (c := bodyOf Tryd.f15) (tab_ok Tryd_tab_ok rfl rfl) (orc_cons (la_toState_c k) orc_nil) Tryd.func15 (by kernel_rfl) rfl (by kernel_rfl) (by decide) rfl rfl (by kernel_rfl) (by kernel_rfl) (by kernel_rfl) (fun x _ h => (la_toPuzzle_ev k x.1).trans h)
end Ev
/- Plain laws: puzzles. -/
namespace Ev
open Go

/-- A puzzle stands on a board of some rows. -/
def puOk (g : List (List Int)) (p : tPuzzle.in) : Bool := stOk g p.2.1 && (decide (cell g p.2.2.1 p.2.2.2.1 = 46) && decide (0 ≤ p.2.2.2.2.1 ∧ p.2.2.2.2.1 ≤ 9))
theorem puz_is (k : Nat) (hk : 2097152 ≤ k) (p : tPuzzle.in) (hs : List.length p.1 ≤ 1048576) :
    (∃ w h, Bd [46, 35] p.1 w h ∧ im_board k p.1 = some (spl p.1, true, ()) ∧ sp_boRead k p.1 = some (gr (spl p.1) w h, true, ()) ∧ (∀ st, im_onBoard k p.1 st = some (spl p.1, stOk (spl p.1) st, ())) ∧ (∀ st, sp_boAsked k p.1 st = some (gr (spl p.1) w h, stOk (spl p.1) st, ())) ∧
      im_IsPuzzle k p = some (puOk (spl p.1) p) ∧ sp_puGood k p = some (puOk (spl p.1) p)) ∨
    ∃ g, im_board k p.1 = some (g, false, ()) ∧ (∀ st, im_onBoard k p.1 st = some (g, false, ())) ∧ (∀ st, sp_boAsked k p.1 st = some (gz, false, ())) ∧ im_IsPuzzle k p = some false ∧ sp_puGood k p = some false := by
  rcases board_is k hk p.1 hs with ⟨w, h, b, e1, e2⟩ | ⟨g, e1, e2⟩
  · have e3 : ∀ st, im_onBoard k p.1 st = some (spl p.1, stOk (spl p.1) st, ()) := by
      intro st
      show (im_board k p.1).bind _ = _
      rw [e1, Option.bind_some, if_pos rfl, isState_is k hk b.rc]; rfl
    have e4 : ∀ st, sp_boAsked k p.1 st = some (gr (spl p.1) w h, stOk (spl p.1) st, ()) := by
      intro st
      show (sp_boRead k p.1).bind _ = _
      rw [e2, Option.bind_some, if_pos rfl, boState_is k hk b.rc]; rfl
    refine .inl ⟨w, h, b, e1, e2, e3, e4, ?_, ?_⟩
    · show (im_onBoard k p.1 p.2.1).bind _ = _
      rw [e3, Option.bind_some, at_is k b.rc, im_in_is]
      unfold puOk
      cases stOk (spl p.1) p.2.1
      · rfl
      · by_cases h1 : cell (spl p.1) p.2.2.1 p.2.2.2.1 = 46
        · simp [h1]
        · simp [h1]
    · show (sp_boAsked k p.1 p.2.1).bind _ = _
      rw [e4, Option.bind_some, boFloor_is k b.rc, sp_l1In_is]
      unfold puOk
      cases stOk (spl p.1) p.2.1
      · rfl
      · by_cases h1 : cell (spl p.1) p.2.2.1 p.2.2.2.1 = 46
        · simp [h1]
        · simp [h1]
  · have e3 : ∀ st, im_onBoard k p.1 st = some (g, false, ()) := by
      intro st
      show (im_board k p.1).bind _ = _
      rw [e1]; rfl
    have e4 : ∀ st, sp_boAsked k p.1 st = some (gz, false, ()) := by
      intro st
      show (sp_boRead k p.1).bind _ = _
      rw [e2]; rfl
    refine .inr ⟨g, e1, e3, e4, ?_, ?_⟩
    · show (im_onBoard k p.1 p.2.1).bind _ = _
      rw [e3]; rfl
    · show (sp_boAsked k p.1 p.2.1).bind _ = _
      rw [e4]; rfl
theorem szPuzzle_is (k : Nat) (x : tPuzzle.in) (h : tPuzzle.InR x) : la_szPuzzle k x 1048576 = if (1048576 : Int) - (List.length x.1 : Int) < 0 then some (-1) else some ((1048576 : Int) - (List.length x.1 : Int)) := by
  have hl : List.length x.1 ≤ 9223372036854775807 := h.1.1
  show (if decide (IntKind.i64.wrap ((1048576 : Int) - (x.1.length : Int)) < 0) = true then some (-1 : Int) else some (IntKind.i64.wrap ((1048576 : Int) - (x.1.length : Int)))) = _
  rw [wr (by omega)]
  by_cases h : (1048576 : Int) - (x.1.length : Int) < 0
  · rw [if_pos (dt h), if_pos h]
  · rw [if_neg (ndt h), if_neg h]
/-- A law of a puzzle holds, if what follows its guard does. -/
theorem guard_puzzle (k : Nat) (x : tPuzzle.in) (h : tPuzzle.InR x) (K : Option Bool) (hK : List.length x.1 ≤ 1048576 → K = some true) :
    ((la_szPuzzle k x 1048576).bind fun r1 => if (decide (r1 < (0 : Int))) = true then some true else (la_toPuzzle k x).bind fun _ => K) = some true := by
  rw [szPuzzle_is k x h]
  by_cases hb : (1048576 : Int) - (x.1.length : Int) < 0
  · rw [if_pos hb]; rfl
  · rw [if_neg hb, Option.bind_some, if_neg (ndt hb)]
    exact hK (by omega)
end Ev
/- loop.example/g01207/spec.diDirs -/
namespace Ev
open Go Go.Proofs
/-! spec.diDirs -/
def sp_diDirs_s (_k : Nat)  : Option (List Int) :=
  some ([110, 101, 115, 119] : List Int)
def sp_diDirs (k : Nat)  : Option (List Int) := sp_diDirs_s k
noncomputable def sp_diDirs_O (k : Nat) : Orc := { ps := [], rt := (.v T.s), F := fun x => sp_diDirs k }
noncomputable def sp_diDirs_E (k : Nat) : Env := { ty := tabTy Tryd_tab, ds := tabDs Tryd_tab, rounds := k, nt := 1, orc := fun _ => none, lp := fun _ => none, ct := fun _ => none, plan := fun _ => none }
noncomputable def sp_diDirs_fin (k : Nat) : Kn (List Int) := finish (sp_diDirs_E k) [] (.v T.s) Tryd.f79.results.toList
theorem sp_diDirs_st (k : Nat)  : evFun (sp_diDirs_E k) [] (.v T.s) Tryd.f79 (()) = sp_diDirs_s k := by kernel_rfl
theorem sp_diDirs_ev (k : Nat)  : evFun (sp_diDirs_E k) [] (.v T.s) Tryd.f79 (()) = sp_diDirs k := by
  skip
  rw [sp_diDirs_st]; rfl
theorem sp_diDirs_c (k : Nat) : Contract Tryd.prog 79 (sp_diDirs_O k) :=
  fun_sound (c := bodyOf Tryd.f79) (tab_ok Tryd_tab_ok rfl rfl) orc_nil Tryd.func79 (by kernel_rfl) rfl (by kernel_rfl) (by decide) rfl rfl (by kernel_rfl) (by kernel_rfl) (by kernel_rfl) (fun x _ h => (sp_diDirs_ev k).trans h)
end Ev
/- loop.example/g01207/spec.diDir -/
namespace Ev
open Go Go.Proofs
/-! spec.diDir -/
@[reducible] def sp_diDir_l2_L : List (Nat × Sh) := [(0, (.v T.s)), (3, (.v I))]
def sp_diDir_l2s (k : Nat) (g_l2 : (List Int) → Int → Option Int) (x0 : (List Int)) (x3 : Int) : Option Int :=
  if (decide (x3 < (4 : Int))) = true then
    (sp_diDirs k).bind fun r1 =>
    cut x3 (IntKind.i64.wrap (x3 + (1 : Int))) (r1.length) (
      if (decide (x0 = ((r1.take ((IntKind.i64.wrap (x3 + (1 : Int)))).toNat).drop (x3).toNat))) = true then
        some x3
      else
        g_l2 x0 (IntKind.i64.wrap (x3 + (1 : Int))))
  else
    some (-1 : Int)
def sp_diDir_l2 (k : Nat)  : Nat → (List Int) → Int → Option Int
  | 0, _, _ => none
  | n + 1, x0, x3 => sp_diDir_l2s k (sp_diDir_l2 k n) x0 x3
def sp_diDir_s (_k : Nat) (c_l2 : (List Int) → Int → Option Int) (x0 : (List Int)) : Option Int :=
  c_l2 x0 (0 : Int)
def sp_diDir (k : Nat) (x0 : (List Int)) : Option Int := sp_diDir_s k (sp_diDir_l2 k k) x0
noncomputable def sp_diDir_O (k : Nat) : Orc := { ps := [.v T.s], rt := (.v I), F := fun x => sp_diDir k x.1 }
noncomputable def sp_diDir_E (k : Nat) : Env := { ty := tabTy Tryd_tab, ds := tabDs Tryd_tab, rounds := k, nt := 16, orc := fun g => if Nat.beq g 79 = true then some (sp_diDirs_O k) else (none), lp := fun i => if Nat.beq i 2 = true then some sp_diDir_l2_L else (none), ct := fun _ => none, plan := fun _ => none }
noncomputable def sp_diDir_fin (k : Nat) : Kn Int := finish (sp_diDir_E k) [.v T.s] (.v I) Tryd.f124.results.toList
noncomputable def sp_diDir_l2_e (k : Nat)  (n : Nat) (x0 : (List Int)) (x3 : Int) : Option Int := loopF (sp_diDir_E k) sp_diDir_l2_L (ev (sp_diDir_E k) (sub (bodyOf Tryd.f124) [.r, .l, .r, .c, .c])) (kont (sp_diDir_E k) (bodyOf Tryd.f124) [.r, .l, .r, .c] [] (sp_diDir_fin k)) n (x0, x3, ())
theorem sp_diDir_l2_z (k : Nat)  (x0 : (List Int)) (x3 : Int) : sp_diDir_l2_e k 0 x0 x3 = none := by kernel_rfl
theorem sp_diDir_l2_st (k : Nat)  (n : Nat) (x0 : (List Int)) (x3 : Int) : sp_diDir_l2_e k (n + 1) x0 x3 = sp_diDir_l2s k (sp_diDir_l2_e k n) x0 x3 := by kernel_rfl
theorem sp_diDir_l2_ev (k : Nat)  : ∀ (n : Nat) (x0 : (List Int)) (x3 : Int), sp_diDir_l2_e k n x0 x3 = sp_diDir_l2 k n x0 x3
  | 0, x0, x3 => sp_diDir_l2_z k x0 x3
  | n + 1, x0, x3 => by
    have ih : (sp_diDir_l2_e k n) = sp_diDir_l2 k n := by funext y0 y1; exact sp_diDir_l2_ev k n y0 y1
    rw [sp_diDir_l2_st, ih]; rfl
theorem sp_diDir_st (k : Nat) (x0 : (List Int)) : evFun (sp_diDir_E k) [.v T.s] (.v I) Tryd.f124 (x0, ()) = sp_diDir_s k (sp_diDir_l2_e k k) x0 := by kernel_rfl
theorem sp_diDir_ev (k : Nat) (x0 : (List Int)) : evFun (sp_diDir_E k) [.v T.s] (.v I) Tryd.f124 (x0, ()) = sp_diDir k x0 := by
  have h0 : (sp_diDir_l2_e k k) = (sp_diDir_l2 k k) := by funext y0 y1; exact sp_diDir_l2_ev k k y0 y1
  rw [sp_diDir_st, h0]; rfl
theorem sp_diDir_c (k : Nat) : Contract Tryd.prog 124 (sp_diDir_O k) :=
  fun_sound (c := bodyOf Tryd.f124) (tab_ok Tryd_tab_ok rfl rfl) (orc_cons (sp_diDirs_c k) orc_nil) Tryd.func124 (by kernel_rfl) rfl (by kernel_rfl) (by decide) rfl rfl (by kernel_rfl) (by kernel_rfl) (by kernel_rfl) (fun x _ h => (sp_diDir_ev k x.1).trans h)
end Ev
/- loop.example/g01207/spec.diWord -/
namespace Ev
open Go Go.Proofs
/-! spec.diWord -/
@[reducible] def sp_diWord_l4_L : List (Nat × Sh) := [(0, (.v T.s)), (3, (.v I))]
def sp_diWord_l4s (k : Nat) (g_l4 : (List Int) → Int → Option Bool) (x0 : (List Int)) (x3 : Int) : Option Bool :=
  if (decide (x3 < (x0.length : Int))) = true then
    cut x3 (IntKind.i64.wrap (x3 + (1 : Int))) (x0.length) (
      (sp_diDir k ((x0.take ((IntKind.i64.wrap (x3 + (1 : Int)))).toNat).drop (x3).toNat)).bind fun r1 =>
      if (decide (r1 < (0 : Int))) = true then
        some false
      else
        g_l4 x0 (IntKind.i64.wrap (x3 + (1 : Int))))
  else
    some true
def sp_diWord_l4 (k : Nat)  : Nat → (List Int) → Int → Option Bool
  | 0, _, _ => none
  | n + 1, x0, x3 => sp_diWord_l4s k (sp_diWord_l4 k n) x0 x3
def sp_diWord_s (_k : Nat) (c_l4 : (List Int) → Int → Option Bool) (x0 : (List Int)) : Option Bool :=
  if (decide ((60 : Int) < (x0.length : Int))) = true then
    some false
  else
    c_l4 x0 (0 : Int)
def sp_diWord (k : Nat) (x0 : (List Int)) : Option Bool := sp_diWord_s k (sp_diWord_l4 k k) x0
noncomputable def sp_diWord_O (k : Nat) : Orc := { ps := [.v T.s], rt := (.v T.b), F := fun x => sp_diWord k x.1 }
noncomputable def sp_diWord_E (k : Nat) : Env := { ty := tabTy Tryd_tab, ds := tabDs Tryd_tab, rounds := k, nt := 20, orc := fun g => if Nat.beq g 124 = true then some (sp_diDir_O k) else (none), lp := fun i => if Nat.beq i 4 = true then some sp_diWord_l4_L else (none), ct := fun _ => none, plan := fun _ => none }
noncomputable def sp_diWord_fin (k : Nat) : Kn Bool := finish (sp_diWord_E k) [.v T.s] (.v T.b) Tryd.f95.results.toList
noncomputable def sp_diWord_l4_e (k : Nat)  (n : Nat) (x0 : (List Int)) (x3 : Int) : Option Bool := loopF (sp_diWord_E k) sp_diWord_l4_L (ev (sp_diWord_E k) (sub (bodyOf Tryd.f95) [.r, .r, .l, .r, .c, .c])) (kont (sp_diWord_E k) (bodyOf Tryd.f95) [.r, .r, .l, .r, .c] [] (sp_diWord_fin k)) n (x0, x3, ())
theorem sp_diWord_l4_z (k : Nat)  (x0 : (List Int)) (x3 : Int) : sp_diWord_l4_e k 0 x0 x3 = none := by kernel_rfl
theorem sp_diWord_l4_st (k : Nat)  (n : Nat) (x0 : (List Int)) (x3 : Int) : sp_diWord_l4_e k (n + 1) x0 x3 = sp_diWord_l4s k (sp_diWord_l4_e k n) x0 x3 := by kernel_rfl
theorem sp_diWord_l4_ev (k : Nat)  : ∀ (n : Nat) (x0 : (List Int)) (x3 : Int), sp_diWord_l4_e k n x0 x3 = sp_diWord_l4 k n x0 x3
  | 0, x0, x3 => sp_diWord_l4_z k x0 x3
  | n + 1, x0, x3 => by
    have ih : (sp_diWord_l4_e k n) = sp_diWord_l4 k n := by funext y0 y1; exact sp_diWord_l4_ev k n y0 y1
    rw [sp_diWord_l4_st, ih]; rfl
theorem sp_diWord_st (k : Nat) (x0 : (List Int)) : evFun (sp_diWord_E k) [.v T.s] (.v T.b) Tryd.f95 (x0, ()) = sp_diWord_s k (sp_diWord_l4_e k k) x0 := by kernel_rfl
theorem sp_diWord_ev (k : Nat) (x0 : (List Int)) : evFun (sp_diWord_E k) [.v T.s] (.v T.b) Tryd.f95 (x0, ()) = sp_diWord k x0 := by
  have h0 : (sp_diWord_l4_e k k) = (sp_diWord_l4 k k) := by funext y0 y1; exact sp_diWord_l4_ev k k y0 y1
  rw [sp_diWord_st, h0]; rfl
theorem sp_diWord_c (k : Nat) : Contract Tryd.prog 95 (sp_diWord_O k) :=
  fun_sound (c := bodyOf Tryd.f95) (tab_ok Tryd_tab_ok rfl rfl) (orc_cons (sp_diDir_c k) orc_nil) Tryd.func95 (by kernel_rfl) rfl (by kernel_rfl) (by decide) rfl rfl (by kernel_rfl) (by kernel_rfl) (by kernel_rfl) (fun x _ h => (sp_diWord_ev k x.1).trans h)
end Ev
/- loop.example/g01207/impl.IsRolls -/
namespace Ev
open Go Go.Proofs
/-! impl.IsRolls -/
def im_IsRolls_s (k : Nat) (x0 : (List Int)) : Option Bool :=
  if (decide ((x0.length : Int) ≤ (60 : Int))) = true then
    (strings_Trim k x0 ([110, 101, 115, 119] : List Int)).bind fun r1 =>
    some (decide (r1 = ([] : List Int)))
  else
    some false
def im_IsRolls (k : Nat) (x0 : (List Int)) : Option Bool := im_IsRolls_s k x0
noncomputable def im_IsRolls_O (k : Nat) : Orc := { ps := [.v T.s], rt := (.v T.b), F := fun x => im_IsRolls k x.1 }
noncomputable def im_IsRolls_E (k : Nat) : Env := { ty := tabTy Tryd_tab, ds := tabDs Tryd_tab, rounds := k, nt := 11, orc := fun g => if Nat.beq g 123 = true then some (strings_Trim_O k) else (none), lp := fun _ => none, ct := fun _ => none, plan := fun _ => none }
noncomputable def im_IsRolls_fin (k : Nat) : Kn Bool := finish (im_IsRolls_E k) [.v T.s] (.v T.b) Tryd.f99.results.toList
theorem im_IsRolls_st (k : Nat) (x0 : (List Int)) : evFun (im_IsRolls_E k) [.v T.s] (.v T.b) Tryd.f99 (x0, ()) = im_IsRolls_s k x0 := by kernel_rfl
theorem im_IsRolls_ev (k : Nat) (x0 : (List Int)) : evFun (im_IsRolls_E k) [.v T.s] (.v T.b) Tryd.f99 (x0, ()) = im_IsRolls k x0 := by
  skip
  rw [im_IsRolls_st]; rfl
theorem im_IsRolls_c (k : Nat) : Contract Tryd.prog 99 (im_IsRolls_O k) :=
  fun_sound (c := bodyOf Tryd.f99) (tab_ok Tryd_tab_ok rfl rfl) (orc_cons (strings_Trim_c k) orc_nil) Tryd.func99 (by kernel_rfl) rfl (by kernel_rfl) (by decide) rfl rfl (by kernel_rfl) (by kernel_rfl) (by kernel_rfl) (fun x _ h => (im_IsRolls_ev k x.1).trans h)
end Ev
/- loop.example/g01207/spec.diRoll -/
namespace Ev
open Go Go.Proofs
/-! spec.diRoll -/
def sp_diRoll_s (_k : Nat) (x0 : tDie.in) (x1 : Int) : Option tDie.in :=
  if (decide (x1 = (0 : Int))) = true then
    some (x0.2.2.2.1, x0.1, x0.2.2.1, x0.2.2.2.2.2.1, x0.2.2.2.2.1, x0.2.1, ())
  else
    if (decide (x1 = (1 : Int))) = true then
      some (x0.2.2.2.2.1, x0.2.1, x0.1, x0.2.2.2.1, x0.2.2.2.2.2.1, x0.2.2.1, ())
    else
      if (decide (x1 = (2 : Int))) = true then
        some (x0.2.1, x0.2.2.2.2.2.1, x0.2.2.1, x0.1, x0.2.2.2.2.1, x0.2.2.2.1, ())
      else
        some (x0.2.2.1, x0.2.1, x0.2.2.2.2.2.1, x0.2.2.2.1, x0.1, x0.2.2.2.2.1, ())
def sp_diRoll (k : Nat) (x0 : tDie.in) (x1 : Int) : Option tDie.in := sp_diRoll_s k x0 x1
noncomputable def sp_diRoll_O (k : Nat) : Orc := { ps := [.v tDie, .v I], rt := (.v tDie), F := fun x => sp_diRoll k x.1 x.2.1 }
noncomputable def sp_diRoll_E (k : Nat) : Env := { ty := tabTy Tryd_tab, ds := tabDs Tryd_tab, rounds := k, nt := 64, orc := fun _ => none, lp := fun _ => none, ct := fun _ => none, plan := fun _ => none }
noncomputable def sp_diRoll_fin (k : Nat) : Kn tDie.in := finish (sp_diRoll_E k) [.v tDie, .v I] (.v tDie) Tryd.f84.results.toList
theorem sp_diRoll_st (k : Nat) (x0 : tDie.in) (x1 : Int) : evFun (sp_diRoll_E k) [.v tDie, .v I] (.v tDie) Tryd.f84 (x0, x1, ()) = sp_diRoll_s k x0 x1 := by kernel_rfl
theorem sp_diRoll_ev (k : Nat) (x0 : tDie.in) (x1 : Int) : evFun (sp_diRoll_E k) [.v tDie, .v I] (.v tDie) Tryd.f84 (x0, x1, ()) = sp_diRoll k x0 x1 := by
  skip
  rw [sp_diRoll_st]; rfl
theorem sp_diRoll_c (k : Nat) : Contract Tryd.prog 84 (sp_diRoll_O k) :=
  fun_sound (c := bodyOf Tryd.f84) (tab_ok Tryd_tab_ok rfl rfl) orc_nil Tryd.func84 (by kernel_rfl) rfl (by kernel_rfl) (by decide) rfl rfl (by kernel_rfl) (by kernel_rfl) (by kernel_rfl) (fun x _ h => (sp_diRoll_ev k x.1 x.2.1).trans h)
end Ev
/- loop.example/g01207/spec.boNext -/
namespace Ev
open Go Go.Proofs
/-! spec.boNext -/
def sp_boNext_s (_k : Nat) (x0 : Int) (x1 : Int) (x2 : Int) : Option (Int × (Int × Unit)) :=
  if (decide (x2 = (0 : Int))) = true then
    some (x0, (IntKind.i64.wrap (x1 - (1 : Int))), ())
  else
    if (decide (x2 = (1 : Int))) = true then
      some ((IntKind.i64.wrap (x0 + (1 : Int))), x1, ())
    else
      if (decide (x2 = (2 : Int))) = true then
        some (x0, (IntKind.i64.wrap (x1 + (1 : Int))), ())
      else
        some ((IntKind.i64.wrap (x0 - (1 : Int))), x1, ())
def sp_boNext (k : Nat) (x0 : Int) (x1 : Int) (x2 : Int) : Option (Int × (Int × Unit)) := sp_boNext_s k x0 x1 x2
noncomputable def sp_boNext_O (k : Nat) : Orc := { ps := [.v I, .v I, .v I], rt := (.pr (.v I) (.pr (.v I) .un)), F := fun x => sp_boNext k x.1 x.2.1 x.2.2.1 }
noncomputable def sp_boNext_E (k : Nat) : Env := { ty := tabTy Tryd_tab, ds := tabDs Tryd_tab, rounds := k, nt := 27, orc := fun _ => none, lp := fun _ => none, ct := fun _ => none, plan := fun _ => none }
noncomputable def sp_boNext_fin (k : Nat) : Kn (Int × (Int × Unit)) := finish (sp_boNext_E k) [.v I, .v I, .v I] (.pr (.v I) (.pr (.v I) .un)) Tryd.f146.results.toList
theorem sp_boNext_st (k : Nat) (x0 : Int) (x1 : Int) (x2 : Int) : evFun (sp_boNext_E k) [.v I, .v I, .v I] (.pr (.v I) (.pr (.v I) .un)) Tryd.f146 (x0, x1, x2, ()) = sp_boNext_s k x0 x1 x2 := by kernel_rfl
theorem sp_boNext_ev (k : Nat) (x0 : Int) (x1 : Int) (x2 : Int) : evFun (sp_boNext_E k) [.v I, .v I, .v I] (.pr (.v I) (.pr (.v I) .un)) Tryd.f146 (x0, x1, x2, ()) = sp_boNext k x0 x1 x2 := by
  skip
  rw [sp_boNext_st]; rfl
theorem sp_boNext_c (k : Nat) : Contract Tryd.prog 146 (sp_boNext_O k) :=
  fun_sound (c := bodyOf Tryd.f146) (tab_ok Tryd_tab_ok rfl rfl) orc_nil Tryd.func146 (by kernel_rfl) rfl (by kernel_rfl) (by decide) rfl rfl (by kernel_rfl) (by kernel_rfl) (by kernel_rfl) (fun x _ h => (sp_boNext_ev k x.1 x.2.1 x.2.2.1).trans h)
end Ev
/- loop.example/g01207/spec.boRoll -/
namespace Ev
open Go Go.Proofs
/-! spec.boRoll -/
def sp_boRoll_s (k : Nat) (x0 : tboGrid.in) (x1 : tState.in) (x2 : Int) : Option (tState.in × (Bool × Unit)) :=
  (sp_boNext k x1.1 x1.2.1 x2).bind fun r1 =>
  (sp_boFloor k x0 r1.1 r1.2.1).bind fun r2 =>
  if (!r2) = true then
    some (((0 : Int), (0 : Int), ((0 : Int), (0 : Int), (0 : Int), (0 : Int), (0 : Int), (0 : Int), ()), ()), false, ())
  else
    (sp_diRoll k x1.2.2.1 x2).bind fun r3 =>
    some ((r1.1, r1.2.1, r3, ()), true, ())
def sp_boRoll (k : Nat) (x0 : tboGrid.in) (x1 : tState.in) (x2 : Int) : Option (tState.in × (Bool × Unit)) := sp_boRoll_s k x0 x1 x2
noncomputable def sp_boRoll_O (k : Nat) : Orc := { ps := [.v tboGrid, .v tState, .v I], rt := (.pr (.v tState) (.pr (.v T.b) .un)), F := fun x => sp_boRoll k x.1 x.2.1 x.2.2.1 }
noncomputable def sp_boRoll_E (k : Nat) : Env := { ty := tabTy Tryd_tab, ds := tabDs Tryd_tab, rounds := k, nt := 32, orc := fun g => if Nat.beq g 84 = true then some (sp_diRoll_O k) else (if Nat.beq g 88 = true then some (sp_boFloor_O k) else (if Nat.beq g 146 = true then some (sp_boNext_O k) else (none))), lp := fun _ => none, ct := fun _ => none, plan := fun _ => none }
noncomputable def sp_boRoll_fin (k : Nat) : Kn (tState.in × (Bool × Unit)) := finish (sp_boRoll_E k) [.v tboGrid, .v tState, .v I] (.pr (.v tState) (.pr (.v T.b) .un)) Tryd.f125.results.toList
theorem sp_boRoll_st (k : Nat) (x0 : tboGrid.in) (x1 : tState.in) (x2 : Int) : evFun (sp_boRoll_E k) [.v tboGrid, .v tState, .v I] (.pr (.v tState) (.pr (.v T.b) .un)) Tryd.f125 (x0, x1, x2, ()) = sp_boRoll_s k x0 x1 x2 := by kernel_rfl
theorem sp_boRoll_ev (k : Nat) (x0 : tboGrid.in) (x1 : tState.in) (x2 : Int) : evFun (sp_boRoll_E k) [.v tboGrid, .v tState, .v I] (.pr (.v tState) (.pr (.v T.b) .un)) Tryd.f125 (x0, x1, x2, ()) = sp_boRoll k x0 x1 x2 := by
  skip
  rw [sp_boRoll_st]; rfl
theorem sp_boRoll_c (k : Nat) : Contract Tryd.prog 125 (sp_boRoll_O k) :=
  fun_sound (c := bodyOf Tryd.f125) (tab_ok Tryd_tab_ok rfl rfl) (orc_cons (sp_diRoll_c k) (orc_cons (sp_boFloor_c k) (orc_cons (sp_boNext_c k) orc_nil))) Tryd.func125 (by kernel_rfl) rfl (by kernel_rfl) (by decide) rfl rfl (by kernel_rfl) (by kernel_rfl) (by kernel_rfl) (fun x _ h => (sp_boRoll_ev k x.1 x.2.1 x.2.2.1).trans h)
end Ev
/- loop.example/g01207/spec.boAlong -/
namespace Ev
open Go Go.Proofs
/-! spec.boAlong -/
@[reducible] def sp_boAlong_l3_L : List (Nat × Sh) := [(2, (.v T.s)), (3, (.bx 66 (.v tboGrid))), (4, (.bx 31 (.v tState))), (7, (.o 31 tState)), (8, (.v I))]
def sp_boAlong_l3s (k : Nat) (g_l3 : (List Int) → tboGrid.in → tState.in → (List tState.in) → Int → Option (List tState.in)) (x2 : (List Int)) (x3 : tboGrid.in) (x4 : tState.in) (x7 : (List tState.in)) (x8 : Int) : Option (List tState.in) :=
  if (decide (x8 < (x2.length : Int))) = true then
    cut x8 (IntKind.i64.wrap (x8 + (1 : Int))) (x2.length) (
      (sp_diDir k ((x2.take ((IntKind.i64.wrap (x8 + (1 : Int)))).toNat).drop (x8).toNat)).bind fun r1 =>
      (sp_boRoll k x3 x4 r1).bind fun r2 =>
      if (!r2.2.1) = true then
        some x7
      else
        if x7.length + ([r2.1] : List tState.in).length ≤ 17179869184 then (
          g_l3 x2 x3 r2.1 (x7 ++ ([r2.1] : List tState.in)) (IntKind.i64.wrap (x8 + (1 : Int)))) else none)
  else
    some x7
def sp_boAlong_l3 (k : Nat)  : Nat → (List Int) → tboGrid.in → tState.in → (List tState.in) → Int → Option (List tState.in)
  | 0, _, _, _, _, _ => none
  | n + 1, x2, x3, x4, x7, x8 => sp_boAlong_l3s k (sp_boAlong_l3 k n) x2 x3 x4 x7 x8
def sp_boAlong_s (_k : Nat) (c_l3 : (List Int) → tboGrid.in → tState.in → (List tState.in) → Int → Option (List tState.in)) (x0 : tboGrid.in) (x1 : tState.in) (x2 : (List Int)) : Option (List tState.in) :=
  c_l3 x2 x0 x1 ([x1] : List tState.in) (0 : Int)
def sp_boAlong (k : Nat) (x0 : tboGrid.in) (x1 : tState.in) (x2 : (List Int)) : Option (List tState.in) := sp_boAlong_s k (sp_boAlong_l3 k k) x0 x1 x2
noncomputable def sp_boAlong_O (k : Nat) : Orc := { ps := [.v tboGrid, .v tState, .v T.s], rt := (.o 31 tState), F := fun x => sp_boAlong k x.1 x.2.1 x.2.2.1 }
noncomputable def sp_boAlong_E (k : Nat) : Env := { ty := tabTy Tryd_tab, ds := tabDs Tryd_tab, rounds := k, nt := 40, orc := fun g => if Nat.beq g 124 = true then some (sp_diDir_O k) else (if Nat.beq g 125 = true then some (sp_boRoll_O k) else (none)), lp := fun i => if Nat.beq i 3 = true then some sp_boAlong_l3_L else (none), ct := fun _ => none, plan := fun i => if Nat.beq i 5 = true then some [(0, []), (1, []), (2, []), (3, []), (4, []), (5, []), (6, []), (7, [12]), (8, [12]), (9, []), (10, []), (11, []), (12, []), (13, []), (14, [])] else (none) }
noncomputable def sp_boAlong_fin (k : Nat) : Kn (List tState.in) := finish (sp_boAlong_E k) [.v tboGrid, .v tState, .v T.s] (.o 31 tState) Tryd.f96.results.toList
noncomputable def sp_boAlong_l3_e (k : Nat)  (n : Nat) (x2 : (List Int)) (x3 : tboGrid.in) (x4 : tState.in) (x7 : (List tState.in)) (x8 : Int) : Option (List tState.in) := loopF (sp_boAlong_E k) sp_boAlong_l3_L (ev (sp_boAlong_E k) (sub (bodyOf Tryd.f96) [.r, .r, .l, .r, .c, .c])) (kont (sp_boAlong_E k) (bodyOf Tryd.f96) [.r, .r, .l, .r, .c] [] (sp_boAlong_fin k)) n (x2, x3, x4, x7, x8, ())
theorem sp_boAlong_l3_z (k : Nat)  (x2 : (List Int)) (x3 : tboGrid.in) (x4 : tState.in) (x7 : (List tState.in)) (x8 : Int) : sp_boAlong_l3_e k 0 x2 x3 x4 x7 x8 = none := by kernel_rfl
theorem sp_boAlong_l3_st (k : Nat)  (n : Nat) (x2 : (List Int)) (x3 : tboGrid.in) (x4 : tState.in) (x7 : (List tState.in)) (x8 : Int) : sp_boAlong_l3_e k (n + 1) x2 x3 x4 x7 x8 = sp_boAlong_l3s k (sp_boAlong_l3_e k n) x2 x3 x4 x7 x8 := by kernel_rfl
theorem sp_boAlong_l3_ev (k : Nat)  : ∀ (n : Nat) (x2 : (List Int)) (x3 : tboGrid.in) (x4 : tState.in) (x7 : (List tState.in)) (x8 : Int), sp_boAlong_l3_e k n x2 x3 x4 x7 x8 = sp_boAlong_l3 k n x2 x3 x4 x7 x8
  | 0, x2, x3, x4, x7, x8 => sp_boAlong_l3_z k x2 x3 x4 x7 x8
  | n + 1, x2, x3, x4, x7, x8 => by
    have ih : (sp_boAlong_l3_e k n) = sp_boAlong_l3 k n := by funext y0 y1 y2 y3 y4; exact sp_boAlong_l3_ev k n y0 y1 y2 y3 y4
    rw [sp_boAlong_l3_st, ih]; rfl
theorem sp_boAlong_st (k : Nat) (x0 : tboGrid.in) (x1 : tState.in) (x2 : (List Int)) : evFun (sp_boAlong_E k) [.v tboGrid, .v tState, .v T.s] (.o 31 tState) Tryd.f96 (x0, x1, x2, ()) = sp_boAlong_s k (sp_boAlong_l3_e k k) x0 x1 x2 := by kernel_rfl
theorem sp_boAlong_ev (k : Nat) (x0 : tboGrid.in) (x1 : tState.in) (x2 : (List Int)) : evFun (sp_boAlong_E k) [.v tboGrid, .v tState, .v T.s] (.o 31 tState) Tryd.f96 (x0, x1, x2, ()) = sp_boAlong k x0 x1 x2 := by
  have h0 : (sp_boAlong_l3_e k k) = (sp_boAlong_l3 k k) := by funext y0 y1 y2 y3 y4; exact sp_boAlong_l3_ev k k y0 y1 y2 y3 y4
  rw [sp_boAlong_st, h0]; rfl
theorem sp_boAlong_c (k : Nat) : Contract Tryd.prog 96 (sp_boAlong_O k) :=
  fun_sound (c := bodyOf Tryd.f96) (tab_ok Tryd_tab_ok rfl rfl) (orc_cons (sp_diDir_c k) (orc_cons (sp_boRoll_c k) orc_nil)) Tryd.func96 (by kernel_rfl) rfl (by kernel_rfl) (by decide) rfl rfl (by kernel_rfl) (by kernel_rfl) (by kernel_rfl) (fun x _ h => (sp_boAlong_ev k x.1 x.2.1 x.2.2.1).trans h)
end Ev
/- loop.example/g01207/spec.boWay -/
namespace Ev
open Go Go.Proofs
/-! spec.boWay -/
def sp_boWay_s (k : Nat) (x0 : (List Int)) (x1 : tState.in) (x2 : (List Int)) : Option ((List tState.in) × (Bool × Unit)) :=
  (sp_boAsked k x0 x1).bind fun r1 =>
  if (!r1.2.1) = true then
    some (([] : List tState.in), false, ())
  else
    (sp_diWord k x2).bind fun r2 =>
    if (!r2) = true then
      some (([] : List tState.in), false, ())
    else
      (sp_boAlong k r1.1 x1 x2).bind fun r3 =>
      if (!decide ((r3.length : Int) = (IntKind.i64.wrap ((x2.length : Int) + (1 : Int))))) = true then
        some (([] : List tState.in), false, ())
      else
        some (r3, true, ())
def sp_boWay (k : Nat) (x0 : (List Int)) (x1 : tState.in) (x2 : (List Int)) : Option ((List tState.in) × (Bool × Unit)) := sp_boWay_s k x0 x1 x2
noncomputable def sp_boWay_O (k : Nat) : Orc := { ps := [.v T.s, .v tState, .v T.s], rt := (.pr (.o 31 tState) (.pr (.v T.b) .un)), F := fun x => sp_boWay k x.1 x.2.1 x.2.2.1 }
noncomputable def sp_boWay_E (k : Nat) : Env := { ty := tabTy Tryd_tab, ds := tabDs Tryd_tab, rounds := k, nt := 35, orc := fun g => if Nat.beq g 65 = true then some (sp_boAsked_O k) else (if Nat.beq g 95 = true then some (sp_diWord_O k) else (if Nat.beq g 96 = true then some (sp_boAlong_O k) else (none))), lp := fun _ => none, ct := fun _ => none, plan := fun _ => none }
noncomputable def sp_boWay_fin (k : Nat) : Kn ((List tState.in) × (Bool × Unit)) := finish (sp_boWay_E k) [.v T.s, .v tState, .v T.s] (.pr (.o 31 tState) (.pr (.v T.b) .un)) Tryd.f54.results.toList
theorem sp_boWay_st (k : Nat) (x0 : (List Int)) (x1 : tState.in) (x2 : (List Int)) : evFun (sp_boWay_E k) [.v T.s, .v tState, .v T.s] (.pr (.o 31 tState) (.pr (.v T.b) .un)) Tryd.f54 (x0, x1, x2, ()) = sp_boWay_s k x0 x1 x2 := by kernel_rfl
theorem sp_boWay_ev (k : Nat) (x0 : (List Int)) (x1 : tState.in) (x2 : (List Int)) : evFun (sp_boWay_E k) [.v T.s, .v tState, .v T.s] (.pr (.o 31 tState) (.pr (.v T.b) .un)) Tryd.f54 (x0, x1, x2, ()) = sp_boWay k x0 x1 x2 := by
  skip
  rw [sp_boWay_st]; rfl
theorem sp_boWay_c (k : Nat) : Contract Tryd.prog 54 (sp_boWay_O k) :=
  fun_sound (c := bodyOf Tryd.f54) (tab_ok Tryd_tab_ok rfl rfl) (orc_cons (sp_boAsked_c k) (orc_cons (sp_diWord_c k) (orc_cons (sp_boAlong_c k) orc_nil))) Tryd.func54 (by kernel_rfl) rfl (by kernel_rfl) (by decide) rfl rfl (by kernel_rfl) (by kernel_rfl) (by kernel_rfl) (fun x _ h => (sp_boWay_ev k x.1 x.2.1 x.2.2.1).trans h)
end Ev
/- (loop.example/g01207/impl.Die).roll -/
namespace Ev
open Go Go.Proofs
/-! (impl.Die).roll -/
def im_Die_roll_s (_k : Nat) (x0 : tDie.in) (x1 : Int) : Option tDie.in :=
  if (decide (x1 = (110 : Int))) = true then
    some (x0.2.2.2.1, x0.1, x0.2.2.1, x0.2.2.2.2.2.1, x0.2.2.2.2.1, x0.2.1, ())
  else
    if (decide (x1 = (101 : Int))) = true then
      some (x0.2.2.2.2.1, x0.2.1, x0.1, x0.2.2.2.1, x0.2.2.2.2.2.1, x0.2.2.1, ())
    else
      if (decide (x1 = (115 : Int))) = true then
        some (x0.2.1, x0.2.2.2.2.2.1, x0.2.2.1, x0.1, x0.2.2.2.2.1, x0.2.2.2.1, ())
      else
        some (x0.2.2.1, x0.2.1, x0.2.2.2.2.2.1, x0.2.2.2.1, x0.1, x0.2.2.2.2.1, ())
def im_Die_roll (k : Nat) (x0 : tDie.in) (x1 : Int) : Option tDie.in := im_Die_roll_s k x0 x1
noncomputable def im_Die_roll_O (k : Nat) : Orc := { ps := [.v tDie, .v (.i .u8)], rt := (.v tDie), F := fun x => im_Die_roll k x.1 x.2.1 }
noncomputable def im_Die_roll_E (k : Nat) : Env := { ty := tabTy Tryd_tab, ds := tabDs Tryd_tab, rounds := k, nt := 64, orc := fun _ => none, lp := fun _ => none, ct := fun _ => none, plan := fun _ => none }
noncomputable def im_Die_roll_fin (k : Nat) : Kn tDie.in := finish (im_Die_roll_E k) [.v tDie, .v (.i .u8)] (.v tDie) Tryd.f87.results.toList
theorem im_Die_roll_st (k : Nat) (x0 : tDie.in) (x1 : Int) : evFun (im_Die_roll_E k) [.v tDie, .v (.i .u8)] (.v tDie) Tryd.f87 (x0, x1, ()) = im_Die_roll_s k x0 x1 := by kernel_rfl
theorem im_Die_roll_ev (k : Nat) (x0 : tDie.in) (x1 : Int) : evFun (im_Die_roll_E k) [.v tDie, .v (.i .u8)] (.v tDie) Tryd.f87 (x0, x1, ()) = im_Die_roll k x0 x1 := by
  skip
  rw [im_Die_roll_st]; rfl
theorem im_Die_roll_c (k : Nat) : Contract Tryd.prog 87 (im_Die_roll_O k) :=
  fun_sound (c := bodyOf Tryd.f87) (tab_ok Tryd_tab_ok rfl rfl) orc_nil Tryd.func87 (by kernel_rfl) rfl (by kernel_rfl) (by decide) rfl rfl (by kernel_rfl) (by kernel_rfl) (by kernel_rfl) (fun x _ h => (im_Die_roll_ev k x.1 x.2.1).trans h)
end Ev
/- loop.example/g01207/impl.next -/
namespace Ev
open Go Go.Proofs
/-! impl.next -/
def im_next_s (_k : Nat) (x0 : Int) (x1 : Int) (x2 : Int) : Option (Int × (Int × Unit)) :=
  if (decide (x2 = (110 : Int))) = true then
    some (x0, (IntKind.i64.wrap (x1 - (1 : Int))), ())
  else
    if (decide (x2 = (101 : Int))) = true then
      some ((IntKind.i64.wrap (x0 + (1 : Int))), x1, ())
    else
      if (decide (x2 = (115 : Int))) = true then
        some (x0, (IntKind.i64.wrap (x1 + (1 : Int))), ())
      else
        some ((IntKind.i64.wrap (x0 - (1 : Int))), x1, ())
def im_next (k : Nat) (x0 : Int) (x1 : Int) (x2 : Int) : Option (Int × (Int × Unit)) := im_next_s k x0 x1 x2
noncomputable def im_next_O (k : Nat) : Orc := { ps := [.v I, .v I, .v (.i .u8)], rt := (.pr (.v I) (.pr (.v I) .un)), F := fun x => im_next k x.1 x.2.1 x.2.2.1 }
noncomputable def im_next_E (k : Nat) : Env := { ty := tabTy Tryd_tab, ds := tabDs Tryd_tab, rounds := k, nt := 27, orc := fun _ => none, lp := fun _ => none, ct := fun _ => none, plan := fun _ => none }
noncomputable def im_next_fin (k : Nat) : Kn (Int × (Int × Unit)) := finish (im_next_E k) [.v I, .v I, .v (.i .u8)] (.pr (.v I) (.pr (.v I) .un)) Tryd.f134.results.toList
theorem im_next_st (k : Nat) (x0 : Int) (x1 : Int) (x2 : Int) : evFun (im_next_E k) [.v I, .v I, .v (.i .u8)] (.pr (.v I) (.pr (.v I) .un)) Tryd.f134 (x0, x1, x2, ()) = im_next_s k x0 x1 x2 := by kernel_rfl
theorem im_next_ev (k : Nat) (x0 : Int) (x1 : Int) (x2 : Int) : evFun (im_next_E k) [.v I, .v I, .v (.i .u8)] (.pr (.v I) (.pr (.v I) .un)) Tryd.f134 (x0, x1, x2, ()) = im_next k x0 x1 x2 := by
  skip
  rw [im_next_st]; rfl
theorem im_next_c (k : Nat) : Contract Tryd.prog 134 (im_next_O k) :=
  fun_sound (c := bodyOf Tryd.f134) (tab_ok Tryd_tab_ok rfl rfl) orc_nil Tryd.func134 (by kernel_rfl) rfl (by kernel_rfl) (by decide) rfl rfl (by kernel_rfl) (by kernel_rfl) (by kernel_rfl) (fun x _ h => (im_next_ev k x.1 x.2.1 x.2.2.1).trans h)
end Ev
/- (loop.example/g01207/impl.grid).roll -/
namespace Ev
open Go Go.Proofs
/-! (impl.grid).roll -/
def im_grid_roll_s (k : Nat) (x0 : (List (List Int))) (x1 : tState.in) (x2 : Int) : Option (tState.in × (Bool × Unit)) :=
  (im_next k x1.1 x1.2.1 x2).bind fun r1 =>
  (im_Die_roll k x1.2.2.1 x2).bind fun r2 =>
  (im_grid_at k x0 r1.1 r1.2.1).bind fun r3 =>
  some ((r1.1, r1.2.1, r2, ()), (decide (r3 = (46 : Int))), ())
def im_grid_roll (k : Nat) (x0 : (List (List Int))) (x1 : tState.in) (x2 : Int) : Option (tState.in × (Bool × Unit)) := im_grid_roll_s k x0 x1 x2
noncomputable def im_grid_roll_O (k : Nat) : Orc := { ps := [.v (.sl T.s), .v tState, .v (.i .u8)], rt := (.pr (.v tState) (.pr (.v T.b) .un)), F := fun x => im_grid_roll k x.1 x.2.1 x.2.2.1 }
noncomputable def im_grid_roll_E (k : Nat) : Env := { ty := tabTy Tryd_tab, ds := tabDs Tryd_tab, rounds := k, nt := 31, orc := fun g => if Nat.beq g 70 = true then some (im_grid_at_O k) else (if Nat.beq g 87 = true then some (im_Die_roll_O k) else (if Nat.beq g 134 = true then some (im_next_O k) else (none))), lp := fun _ => none, ct := fun _ => none, plan := fun _ => none }
noncomputable def im_grid_roll_fin (k : Nat) : Kn (tState.in × (Bool × Unit)) := finish (im_grid_roll_E k) [.v (.sl T.s), .v tState, .v (.i .u8)] (.pr (.v tState) (.pr (.v T.b) .un)) Tryd.f113.results.toList
theorem im_grid_roll_st (k : Nat) (x0 : (List (List Int))) (x1 : tState.in) (x2 : Int) : evFun (im_grid_roll_E k) [.v (.sl T.s), .v tState, .v (.i .u8)] (.pr (.v tState) (.pr (.v T.b) .un)) Tryd.f113 (x0, x1, x2, ()) = im_grid_roll_s k x0 x1 x2 := by kernel_rfl
theorem im_grid_roll_ev (k : Nat) (x0 : (List (List Int))) (x1 : tState.in) (x2 : Int) : evFun (im_grid_roll_E k) [.v (.sl T.s), .v tState, .v (.i .u8)] (.pr (.v tState) (.pr (.v T.b) .un)) Tryd.f113 (x0, x1, x2, ()) = im_grid_roll k x0 x1 x2 := by
  skip
  rw [im_grid_roll_st]; rfl
theorem im_grid_roll_c (k : Nat) : Contract Tryd.prog 113 (im_grid_roll_O k) :=
  fun_sound (c := bodyOf Tryd.f113) (tab_ok Tryd_tab_ok rfl rfl) (orc_cons (im_grid_at_c k) (orc_cons (im_Die_roll_c k) (orc_cons (im_next_c k) orc_nil))) Tryd.func113 (by kernel_rfl) rfl (by kernel_rfl) (by decide) rfl rfl (by kernel_rfl) (by kernel_rfl) (by kernel_rfl) (fun x _ h => (im_grid_roll_ev k x.1 x.2.1 x.2.2.1).trans h)
end Ev
/- (loop.example/g01207/impl.grid).along -/
namespace Ev
open Go Go.Proofs
/-! (impl.grid).along -/
@[reducible] def im_grid_along_l3_L : List (Nat × Sh) := [(0, (.v (.sl T.s))), (2, (.v T.s)), (7, (.o 31 tState)), (14, (.v I)), (15, (.v I))]
def im_grid_along_l3s (k : Nat) (g_l3 : (List (List Int)) → (List Int) → (List tState.in) → Int → Int → Option (List tState.in)) (x0 : (List (List Int))) (x2 : (List Int)) (x7 : (List tState.in)) (x14 : Int) (x15 : Int) : Option (List tState.in) :=
  if (decide (x15 < x14)) = true then
    inb x15 x7.length (
      inb x15 x2.length (
        (im_grid_roll k x0 (x7.getD (x15).toNat ((0 : Int), (0 : Int), ((0 : Int), (0 : Int), (0 : Int), (0 : Int), (0 : Int), (0 : Int), ()), ())) (x2.getD (x15).toNat 0)).bind fun r1 =>
        if (!r1.2.1) = true then
          some x7
        else
          if x7.length + ([r1.1] : List tState.in).length ≤ 17179869184 then (
            g_l3 x0 x2 (x7 ++ ([r1.1] : List tState.in)) x14 (IntKind.i64.wrap (x15 + (1 : Int)))) else none))
  else
    some x7
def im_grid_along_l3 (k : Nat)  : Nat → (List (List Int)) → (List Int) → (List tState.in) → Int → Int → Option (List tState.in)
  | 0, _, _, _, _, _ => none
  | n + 1, x0, x2, x7, x14, x15 => im_grid_along_l3s k (im_grid_along_l3 k n) x0 x2 x7 x14 x15
def im_grid_along_s (_k : Nat) (c_l3 : (List (List Int)) → (List Int) → (List tState.in) → Int → Int → Option (List tState.in)) (x0 : (List (List Int))) (x1 : tState.in) (x2 : (List Int)) : Option (List tState.in) :=
  c_l3 x0 x2 ([x1] : List tState.in) (x2.length : Int) (0 : Int)
def im_grid_along (k : Nat) (x0 : (List (List Int))) (x1 : tState.in) (x2 : (List Int)) : Option (List tState.in) := im_grid_along_s k (im_grid_along_l3 k k) x0 x1 x2
noncomputable def im_grid_along_O (k : Nat) : Orc := { ps := [.v (.sl T.s), .v tState, .v T.s], rt := (.o 31 tState), F := fun x => im_grid_along k x.1 x.2.1 x.2.2.1 }
noncomputable def im_grid_along_E (k : Nat) : Env := { ty := tabTy Tryd_tab, ds := tabDs Tryd_tab, rounds := k, nt := 38, orc := fun g => if Nat.beq g 113 = true then some (im_grid_roll_O k) else (none), lp := fun i => if Nat.beq i 3 = true then some im_grid_along_l3_L else (none), ct := fun _ => none, plan := fun i => if Nat.beq i 5 = true then some [(0, []), (1, []), (2, []), (3, []), (4, []), (5, []), (6, []), (7, []), (8, [12]), (9, []), (10, []), (11, []), (12, []), (13, []), (14, [])] else (none) }
noncomputable def im_grid_along_fin (k : Nat) : Kn (List tState.in) := finish (im_grid_along_E k) [.v (.sl T.s), .v tState, .v T.s] (.o 31 tState) Tryd.f100.results.toList
noncomputable def im_grid_along_l3_e (k : Nat)  (n : Nat) (x0 : (List (List Int))) (x2 : (List Int)) (x7 : (List tState.in)) (x14 : Int) (x15 : Int) : Option (List tState.in) := loopF (im_grid_along_E k) im_grid_along_l3_L (ev (im_grid_along_E k) (sub (bodyOf Tryd.f100) [.r, .r, .l, .r, .c, .c])) (kont (im_grid_along_E k) (bodyOf Tryd.f100) [.r, .r, .l, .r, .c] [] (im_grid_along_fin k)) n (x0, x2, x7, x14, x15, ())
theorem im_grid_along_l3_z (k : Nat)  (x0 : (List (List Int))) (x2 : (List Int)) (x7 : (List tState.in)) (x14 : Int) (x15 : Int) : im_grid_along_l3_e k 0 x0 x2 x7 x14 x15 = none := by kernel_rfl
theorem im_grid_along_l3_st (k : Nat)  (n : Nat) (x0 : (List (List Int))) (x2 : (List Int)) (x7 : (List tState.in)) (x14 : Int) (x15 : Int) : im_grid_along_l3_e k (n + 1) x0 x2 x7 x14 x15 = im_grid_along_l3s k (im_grid_along_l3_e k n) x0 x2 x7 x14 x15 := by kernel_rfl
theorem im_grid_along_l3_ev (k : Nat)  : ∀ (n : Nat) (x0 : (List (List Int))) (x2 : (List Int)) (x7 : (List tState.in)) (x14 : Int) (x15 : Int), im_grid_along_l3_e k n x0 x2 x7 x14 x15 = im_grid_along_l3 k n x0 x2 x7 x14 x15
  | 0, x0, x2, x7, x14, x15 => im_grid_along_l3_z k x0 x2 x7 x14 x15
  | n + 1, x0, x2, x7, x14, x15 => by
    have ih : (im_grid_along_l3_e k n) = im_grid_along_l3 k n := by funext y0 y1 y2 y3 y4; exact im_grid_along_l3_ev k n y0 y1 y2 y3 y4
    rw [im_grid_along_l3_st, ih]; rfl
theorem im_grid_along_st (k : Nat) (x0 : (List (List Int))) (x1 : tState.in) (x2 : (List Int)) : evFun (im_grid_along_E k) [.v (.sl T.s), .v tState, .v T.s] (.o 31 tState) Tryd.f100 (x0, x1, x2, ()) = im_grid_along_s k (im_grid_along_l3_e k k) x0 x1 x2 := by kernel_rfl
theorem im_grid_along_ev (k : Nat) (x0 : (List (List Int))) (x1 : tState.in) (x2 : (List Int)) : evFun (im_grid_along_E k) [.v (.sl T.s), .v tState, .v T.s] (.o 31 tState) Tryd.f100 (x0, x1, x2, ()) = im_grid_along k x0 x1 x2 := by
  have h0 : (im_grid_along_l3_e k k) = (im_grid_along_l3 k k) := by funext y0 y1 y2 y3 y4; exact im_grid_along_l3_ev k k y0 y1 y2 y3 y4
  rw [im_grid_along_st, h0]; rfl
theorem im_grid_along_c (k : Nat) : Contract Tryd.prog 100 (im_grid_along_O k) :=
  fun_sound (c := bodyOf Tryd.f100) (tab_ok Tryd_tab_ok rfl rfl) (orc_cons (im_grid_roll_c k) orc_nil) Tryd.func100 (by kernel_rfl) rfl (by kernel_rfl) (by decide) rfl rfl (by kernel_rfl) (by kernel_rfl) (by kernel_rfl) (fun x _ h => (im_grid_along_ev k x.1 x.2.1 x.2.2.1).trans h)
end Ev
/- loop.example/g01207/impl.statesAlong -/
namespace Ev
open Go Go.Proofs
/-! impl.statesAlong -/
def im_statesAlong_s (k : Nat) (x0 : (List Int)) (x1 : tState.in) (x2 : (List Int)) : Option ((List tState.in) × (Bool × Unit)) :=
  (im_onBoard k x0 x1).bind fun r1 =>
  if (!r1.2.1) = true then
    some (([] : List tState.in), false, ())
  else
    (im_IsRolls k x2).bind fun r2 =>
    if (!r2) = true then
      some (([] : List tState.in), false, ())
    else
      (im_grid_along k r1.1 x1 x2).bind fun r3 =>
      some (r3, (decide ((r3.length : Int) = (IntKind.i64.wrap ((x2.length : Int) + (1 : Int))))), ())
def im_statesAlong (k : Nat) (x0 : (List Int)) (x1 : tState.in) (x2 : (List Int)) : Option ((List tState.in) × (Bool × Unit)) := im_statesAlong_s k x0 x1 x2
noncomputable def im_statesAlong_O (k : Nat) : Orc := { ps := [.v T.s, .v tState, .v T.s], rt := (.pr (.o 31 tState) (.pr (.v T.b) .un)), F := fun x => im_statesAlong k x.1 x.2.1 x.2.2.1 }
noncomputable def im_statesAlong_E (k : Nat) : Env := { ty := tabTy Tryd_tab, ds := tabDs Tryd_tab, rounds := k, nt := 35, orc := fun g => if Nat.beq g 90 = true then some (im_onBoard_O k) else (if Nat.beq g 99 = true then some (im_IsRolls_O k) else (if Nat.beq g 100 = true then some (im_grid_along_O k) else (none))), lp := fun _ => none, ct := fun _ => none, plan := fun _ => none }
noncomputable def im_statesAlong_fin (k : Nat) : Kn ((List tState.in) × (Bool × Unit)) := finish (im_statesAlong_E k) [.v T.s, .v tState, .v T.s] (.pr (.o 31 tState) (.pr (.v T.b) .un)) Tryd.f56.results.toList
theorem im_statesAlong_st (k : Nat) (x0 : (List Int)) (x1 : tState.in) (x2 : (List Int)) : evFun (im_statesAlong_E k) [.v T.s, .v tState, .v T.s] (.pr (.o 31 tState) (.pr (.v T.b) .un)) Tryd.f56 (x0, x1, x2, ()) = im_statesAlong_s k x0 x1 x2 := by kernel_rfl
theorem im_statesAlong_ev (k : Nat) (x0 : (List Int)) (x1 : tState.in) (x2 : (List Int)) : evFun (im_statesAlong_E k) [.v T.s, .v tState, .v T.s] (.pr (.o 31 tState) (.pr (.v T.b) .un)) Tryd.f56 (x0, x1, x2, ()) = im_statesAlong k x0 x1 x2 := by
  skip
  rw [im_statesAlong_st]; rfl
theorem im_statesAlong_c (k : Nat) : Contract Tryd.prog 56 (im_statesAlong_O k) :=
  fun_sound (c := bodyOf Tryd.f56) (tab_ok Tryd_tab_ok rfl rfl) (orc_cons (im_onBoard_c k) (orc_cons (im_IsRolls_c k) (orc_cons (im_grid_along_c k) orc_nil))) Tryd.func56 (by kernel_rfl) rfl (by kernel_rfl) (by decide) rfl rfl (by kernel_rfl) (by kernel_rfl) (by kernel_rfl) (fun x _ h => (im_statesAlong_ev k x.1 x.2.1 x.2.2.1).trans h)
end Ev
/- Plain laws: words of rolls, and the states along them. -/
namespace Ev
open Go

/-- The number of a direction, -1 if it is none. -/
def dirI (c : Int) : Int := if c = 110 then 0 else if c = 101 then 1 else if c = 115 then 2 else if c = 119 then 3 else -1
def isDir (c : Int) : Prop := c ∈ ([110, 101, 115, 119] : List Int)
instance (c : Int) : Decidable (isDir c) := inferInstanceAs (Decidable (c ∈ ([110, 101, 115, 119] : List Int)))
theorem dirI_neg (c : Int) : dirI c < 0 ↔ ¬ isDir c := by
  unfold dirI isDir
  by_cases h1 : c = 110
  · simp [h1]
  · by_cases h2 : c = 101
    · simp [h2]
    · by_cases h3 : c = 115
      · simp [h3]
      · by_cases h4 : c = 119
        · simp [h4]
        · simp [h1, h2, h3, h4]
theorem diDir_is (k : Nat) (_hk : 2097152 ≤ k) (c : Int) : sp_diDir k [c] = some (dirI c) := by
  obtain ⟨n, rfl⟩ : ∃ j, k = j + 5 := ⟨k - 5, by omega⟩
  have step : ∀ (m : Nat) (i : Nat) (d : Int), i < 4 → ([110, 101, 115, 119] : List Int).getD i 0 = d → sp_diDir_l2 (n + 5) (m + 1) [c] (i : Int) = if c = d then some (i : Int) else sp_diDir_l2 (n + 5) m [c] ((i + 1 : Nat) : Int) := by
    intro m i d hi hd
    show sp_diDir_l2s (n + 5) _ _ _ = _
    unfold sp_diDir_l2s
    rw [if_pos (dt (by omega)), wr (by omega)]
    show (Option.bind (some ([110, 101, 115, 119] : List Int)) _) = _
    rw [Option.bind_some, cut_eq (by simp; omega)]
    have e : ((([110, 101, 115, 119] : List Int).take ((i : Int) + 1).toNat).drop (i : Int).toNat) = [d] := by
      subst hd
      match i, hi with
      | 0, _ => rfl
      | 1, _ => rfl
      | 2, _ => rfl
      | 3, _ => rfl
    rw [e]
    refine ifc ?_ _ _
    simp
  show sp_diDir_l2 (n + 5) (n + 5) [c] ((0 : Nat) : Int) = _
  rw [step (n + 4) 0 110 (by omega) rfl, step (n + 3) 1 101 (by omega) rfl, step (n + 2) 2 115 (by omega) rfl, step (n + 1) 3 119 (by omega) rfl]
  unfold dirI
  by_cases h1 : c = 110
  · rw [if_pos h1, if_pos h1]; rfl
  · rw [if_neg h1, if_neg h1]
    by_cases h2 : c = 101
    · rw [if_pos h2, if_pos h2]; rfl
    · rw [if_neg h2, if_neg h2]
      by_cases h3 : c = 115
      · rw [if_pos h3, if_pos h3]; rfl
      · rw [if_neg h3, if_neg h3]
        by_cases h4 : c = 119
        · rw [if_pos h4, if_pos h4]; rfl
        · rw [if_neg h4, if_neg h4]; rfl
theorem take_drop_one {s : List Int} {i : Nat} (h : i < s.length) : (s.take ((i : Int) + 1).toNat).drop (i : Int).toNat = [s.getD i 0] := by
  have e : ((i : Int) + 1).toNat = i + 1 := by omega
  have e2 : (i : Int).toNat = i := by omega
  rw [e, e2, List.drop_take]
  rw [getD_drop s i 0 h]
  have : i + 1 - i = 1 := by omega
  rw [this]; rfl
theorem diWord_loop (k : Nat) (hk : 2097152 ≤ k) (s : List Int) (hl : s.length ≤ 1000000000) : ∀ (d n i : Nat), s.length = i + d → d < n →
    sp_diWord_l4 k n s (i : Int) = some (decide (∀ c ∈ s.drop i, isDir c))
  | 0, n + 1, i, h, _ => by
    show sp_diWord_l4s k _ _ _ = _
    unfold sp_diWord_l4s
    rw [if_neg (ndt (by omega)), List.drop_of_length_le (by omega)]; simp
  | d + 1, n + 1, i, h, hn => by
    show sp_diWord_l4s k _ _ _ = _
    unfold sp_diWord_l4s
    have ih := diWord_loop k hk s hl d n (i + 1) (by omega) (by omega)
    rw [if_pos (dt (by omega)), wr (by omega), cut_eq (by omega), take_drop_one (by omega), diDir_is k hk, Option.bind_some, getD_drop s i 0 (by omega)]
    by_cases hc : isDir (s.getD i 0)
    · rw [if_neg (ndt (by rw [dirI_neg]; simpa using hc))]
      refine (show _ = _ from ih).trans (sdd ?_)
      constructor
      · intro q c hc'
        rcases List.mem_cons.1 hc' with rfl | h'
        · exact hc
        · exact q c h'
      · exact fun q c hc' => q c (List.mem_cons_of_mem _ hc')
    · rw [if_pos (dt ((dirI_neg _).2 hc)), decide_eq_false (fun q => hc (q _ List.mem_cons_self))]
def wordOk (s : List Int) : Bool := decide (s.length ≤ 60 ∧ ∀ c ∈ s, isDir c)
theorem diWord_is (k : Nat) (hk : 2097152 ≤ k) (s : List Int) : sp_diWord k s = some (wordOk s) := by
  show (if decide ((60 : Int) < (s.length : Int)) = true then _ else _) = _
  by_cases h : s.length ≤ 60
  · rw [if_neg (ndt (by omega))]
    refine (diWord_loop k hk s (by omega) s.length k 0 (by omega) (by omega)).trans (sdd ?_)
    simp [h]
  · rw [if_pos (dt (by omega))]
    unfold wordOk
    rw [decide_eq_false (fun q => h q.1)]
theorem isRolls_is (k : Nat) (s : List Int) : im_IsRolls k s = some (wordOk s) := by
  show (if decide ((s.length : Int) ≤ 60) = true then _ else _) = _
  by_cases h : s.length ≤ 60
  · rw [if_pos (dt (by omega))]
    have e2 : strings_Trim k s [110, 101, 115, 119] = some (trimI s [110, 101, 115, 119]) := by
      show trimF _ _ = _
      unfold trimF
      rw [if_pos (by decide), if_pos (by decide), if_pos (by omega)]
    rw [e2, Option.bind_some]
    refine sdd ?_
    rw [trimI_nil]
    exact ⟨fun q => ⟨h, q⟩, fun q => q.2⟩
  · rw [if_neg (ndt (by omega))]
    unfold wordOk
    rw [decide_eq_false (fun q => h q.1)]

/-! ### One roll -/
def nxt (x y c : Int) : Int × (Int × Unit) :=
  if c = 110 then (x, IntKind.i64.wrap (y - 1), ()) else if c = 101 then (IntKind.i64.wrap (x + 1), y, ()) else if c = 115 then (x, IntKind.i64.wrap (y + 1), ()) else (IntKind.i64.wrap (x - 1), y, ())
def rolD (d : tDie.in) (c : Int) : tDie.in :=
  if c = 110 then (d.2.2.2.1, d.1, d.2.2.1, d.2.2.2.2.2.1, d.2.2.2.2.1, d.2.1, ())
  else if c = 101 then (d.2.2.2.2.1, d.2.1, d.1, d.2.2.2.1, d.2.2.2.2.2.1, d.2.2.1, ())
  else if c = 115 then (d.2.1, d.2.2.2.2.2.1, d.2.2.1, d.1, d.2.2.2.2.1, d.2.2.2.1, ())
  else (d.2.2.1, d.2.1, d.2.2.2.2.2.1, d.2.2.2.1, d.1, d.2.2.2.2.1, ())
theorem next_is (k : Nat) (x y c : Int) : im_next k x y c = some (nxt x y c) := by
  show (if decide (c = 110) = true then _ else if decide (c = 101) = true then _ else if decide (c = 115) = true then _ else _) = some (if c = 110 then _ else if c = 101 then _ else if c = 115 then _ else _)
  by_cases h1 : c = 110
  · rw [if_pos (dt h1), if_pos h1]
  · rw [if_neg (ndt h1), if_neg h1]
    by_cases h2 : c = 101
    · rw [if_pos (dt h2), if_pos h2]
    · rw [if_neg (ndt h2), if_neg h2]
      by_cases h3 : c = 115
      · rw [if_pos (dt h3), if_pos h3]
      · rw [if_neg (ndt h3), if_neg h3]
theorem dieRoll_is (k : Nat) (d : tDie.in) (c : Int) : im_Die_roll k d c = some (rolD d c) := by
  show (if decide (c = 110) = true then _ else if decide (c = 101) = true then _ else if decide (c = 115) = true then _ else _) = some (if c = 110 then _ else if c = 101 then _ else if c = 115 then _ else _)
  by_cases h1 : c = 110
  · rw [if_pos (dt h1), if_pos h1]
  · rw [if_neg (ndt h1), if_neg h1]
    by_cases h2 : c = 101
    · rw [if_pos (dt h2), if_pos h2]
    · rw [if_neg (ndt h2), if_neg h2]
      by_cases h3 : c = 115
      · rw [if_pos (dt h3), if_pos h3]
      · rw [if_neg (ndt h3), if_neg h3]
theorem boNext_is (k : Nat) (x y c : Int) (h : isDir c) : sp_boNext k x y (dirI c) = some (nxt x y c) := by
  simp only [isDir, List.mem_cons, List.not_mem_nil, or_false] at h
  rcases h with rfl | rfl | rfl | rfl <;> rfl
theorem diRoll_is (k : Nat) (d : tDie.in) (c : Int) (h : isDir c) : sp_diRoll k d (dirI c) = some (rolD d c) := by
  simp only [isDir, List.mem_cons, List.not_mem_nil, or_false] at h
  rcases h with rfl | rfl | rfl | rfl <;> rfl
/-- A state rolled. -/
def rol (s : tState.in) (c : Int) : tState.in := ((nxt s.1 s.2.1 c).1, (nxt s.1 s.2.1 c).2.1, rolD s.2.2.1 c, ())
def flo (g : List (List Int)) (s : tState.in) : Bool := decide (cell g s.1 s.2.1 = 46)
def sz0 : tState.in := ((0 : Int), (0 : Int), ((0 : Int), (0 : Int), (0 : Int), (0 : Int), (0 : Int), (0 : Int), ()), ())
theorem gridRoll_is (k : Nat) {g : List (List Int)} {w h : Nat} (r : Rc g w h) (s : tState.in) (c : Int) : im_grid_roll k g s c = some (rol s c, flo g (rol s c), ()) := by
  show (im_next k s.1 s.2.1 c).bind _ = _
  rw [next_is, Option.bind_some, dieRoll_is, Option.bind_some, at_is k r]
  rfl
theorem boRoll_is (k : Nat) {g : List (List Int)} {w h : Nat} (r : Rc g w h) (s : tState.in) (c : Int) (hc : isDir c) : sp_boRoll k (gr g w h) s (dirI c) = some (if flo g (rol s c) = true then (rol s c, true, ()) else (sz0, false, ())) := by
  show (sp_boNext k s.1 s.2.1 (dirI c)).bind _ = _
  rw [boNext_is k _ _ _ hc, Option.bind_some, boFloor_is k r, Option.bind_some, diRoll_is k _ _ hc]
  show (if (!flo g (rol s c)) = true then _ else _) = _
  cases flo g (rol s c) <;> rfl
/-- The states along a word, as far as it can be rolled. -/
def alo (g : List (List Int)) : tState.in → List Int → List tState.in
  | s, [] => [s]
  | s, c :: t => s :: if flo g (rol s c) = true then alo g (rol s c) t else []
theorem alo_len (g : List (List Int)) : ∀ (t : List Int) (s : tState.in), (alo g s t).length ≤ t.length + 1
  | [], s => by simp [alo]
  | c :: t, s => by
    unfold alo
    have := alo_len g t (rol s c)
    split <;> simp <;> omega
theorem alo_cons (g : List (List Int)) (s : tState.in) (t : List Int) : alo g s t = s :: (alo g s t).tail := by cases t <;> rfl
theorem boAlong_loop (k : Nat) (hk : 2097152 ≤ k) {g : List (List Int)} {w h : Nat} (r : Rc g w h) (s : List Int) (hl : s.length ≤ 60) (hd : ∀ c ∈ s, isDir c) : ∀ (d n i : Nat) (st : tState.in) (l : List tState.in), s.length = i + d → d < n → l.length ≤ i + 1 →
    sp_boAlong_l3 k n s (gr g w h) st l (i : Int) = some (l ++ (alo g st (s.drop i)).tail)
  | 0, n + 1, i, st, l, h, _, _ => by
    show sp_boAlong_l3s k _ _ _ _ _ _ = _
    unfold sp_boAlong_l3s
    rw [if_neg (ndt (by omega)), List.drop_of_length_le (by omega)]; simp [alo]
  | d + 1, n + 1, i, st, l, h, hn, hll => by
    show sp_boAlong_l3s k _ _ _ _ _ _ = _
    unfold sp_boAlong_l3s
    have hdc : isDir (s.getD i 0) := hd _ (by rw [gd _ _ _ (by omega)]; exact List.getElem_mem _)
    rw [if_pos (dt (by omega)), wr (by omega), cut_eq (by omega), take_drop_one (by omega), diDir_is k hk, Option.bind_some, getD_drop s i 0 (by omega), boRoll_is k r _ _ hdc, Option.bind_some]
    unfold alo
    by_cases hf : flo g (rol st (s.getD i 0)) = true
    · rw [if_pos hf, if_pos hf, if_neg (show ¬((!true) = true) by decide), if_pos (by simp; omega)]
      refine (boAlong_loop k hk r s hl hd d n (i + 1) (rol st (s.getD i 0)) (l ++ [rol st (s.getD i 0)]) (by omega) (by omega) (by simp; omega)).trans ?_
      rw [List.append_assoc]
      congr 2
      exact (alo_cons _ _ _).symm
    · rw [if_neg hf, if_neg hf]; simp
theorem along_loop (k : Nat) {g : List (List Int)} {w h : Nat} (r : Rc g w h) (s : List Int) (hl : s.length ≤ 60) : ∀ (d n i : Nat) (st : tState.in) (l : List tState.in), s.length = i + d → d < n → l.length = i + 1 → l.getD i sz0 = st →
    im_grid_along_l3 k n g s l (s.length : Int) (i : Int) = some (l ++ (alo g st (s.drop i)).tail)
  | 0, n + 1, i, st, l, h, _, _, _ => by
    show im_grid_along_l3s k _ _ _ _ _ _ = _
    unfold im_grid_along_l3s
    rw [if_neg (ndt (by omega)), List.drop_of_length_le (by omega)]; simp [alo]
  | d + 1, n + 1, i, st, l, h, hn, hll, hst => by
    show im_grid_along_l3s k _ _ _ _ _ _ = _
    unfold im_grid_along_l3s
    have e1 : l.getD (i : Int).toNat ((0 : Int), (0 : Int), ((0 : Int), (0 : Int), (0 : Int), (0 : Int), (0 : Int), (0 : Int), ()), ()) = st := hst
    have e2 : s.getD (i : Int).toNat 0 = s.getD i 0 := rfl
    rw [if_pos (dt (by omega)), inb_eq (by omega), inb_eq (by omega), wr (by omega), e1, e2, gridRoll_is k r, Option.bind_some, getD_drop s i 0 (by omega)]
    unfold alo
    by_cases hf : flo g (rol st (s.getD i 0)) = true
    · rw [if_pos hf]
      show (if (!flo g (rol st (s.getD i 0))) = true then _ else _) = _
      rw [hf, if_neg (by decide), if_pos (by simp; omega)]
      refine (along_loop k r s hl d n (i + 1) (rol st (s.getD i 0)) (l ++ [rol st (s.getD i 0)]) (by omega) (by omega) (by simp; omega) ?_).trans ?_
      · simp [List.getD, ← hll]
      · rw [List.append_assoc]
        congr 2
        exact (alo_cons _ _ _).symm
    · rw [if_neg hf]
      show (if (!flo g (rol st (s.getD i 0))) = true then _ else _) = _
      rw [if_pos (by simpa using hf)]; simp
/-- The states along a word, if they can be rolled. -/
theorem way_is (k : Nat) (hk : 2097152 ≤ k) (b : List Int) (st : tState.in) (s : List Int) (g g' : List (List Int)) (w h : Nat) (ok : Bool) (hr : ok = true → Rc g w h)
    (e1 : im_onBoard k b st = some (if ok = true then g else g', ok, ())) (e2 : sp_boAsked k b st = some (if ok = true then gr g w h else gz, ok, ())) :
    (ok = true ∧ wordOk s = true ∧ (alo g st s).length = s.length + 1 ∧ im_statesAlong k b st s = some (alo g st s, true, ()) ∧ sp_boWay k b st s = some (alo g st s, true, ())) ∨
    ((ok = false ∨ wordOk s = false ∨ (alo g st s).length ≠ s.length + 1) ∧ ∃ l, im_statesAlong k b st s = some (l, false, ()) ∧ sp_boWay k b st s = some ([], false, ())) := by
  have h1 : im_statesAlong k b st s = (im_onBoard k b st).bind _ := rfl
  have h2 : sp_boWay k b st s = (sp_boAsked k b st).bind _ := rfl
  rw [h1, h2, e1, e2, Option.bind_some, Option.bind_some]
  cases ok with
  | false => exact .inr ⟨.inl rfl, [], rfl, rfl⟩
  | true =>
    have r := hr rfl
    simp only [if_true]
    rw [if_neg (by decide), if_neg (by decide), isRolls_is, diWord_is k hk, Option.bind_some, Option.bind_some]
    by_cases hw : wordOk s = true
    · have hw' := of_decide_eq_true hw
      rw [if_neg (by simp [hw]), if_neg (by simp [hw])]
      have a1 : im_grid_along k g st s = some (alo g st s) :=
        (along_loop k r s hw'.1 s.length k 0 st [st] (by omega) (by omega) rfl rfl).trans (by rw [List.drop_zero, List.singleton_append, ← alo_cons])
      have a2 : sp_boAlong k (gr g w h) st s = some (alo g st s) :=
        (boAlong_loop k hk r s hw'.1 hw'.2 s.length k 0 st [st] (by omega) (by omega) (Nat.le_refl _)).trans (by rw [List.drop_zero, List.singleton_append, ← alo_cons])
      rw [a1, a2, Option.bind_some, Option.bind_some, wr (by omega)]
      by_cases hl : (alo g st s).length = s.length + 1
      · refine .inl ⟨trivial, hw, hl, ?_, ?_⟩
        · rw [decide_eq_true (by omega)]
        · rw [if_neg (nnd (by omega))]
      · refine .inr ⟨.inr (.inr hl), alo g st s, ?_, ?_⟩
        · rw [decide_eq_false (by omega)]
        · rw [if_pos (nd (by omega))]
    · have hw0 : wordOk s = false := by simpa using hw
      rw [if_pos (by simp [hw0]), if_pos (by simp [hw0])]
      exact .inr ⟨.inr (.inl hw0), [], rfl, rfl⟩
end Ev
/- loop.example/g01207/spec.boText -/
namespace Ev
open Go Go.Proofs
/-! spec.boText -/
@[reducible] def sp_boText_j7_L : List (Nat × Sh) := [(1, (.bx 66 (.v tboGrid))), (3, (.v T.s)), (4, (.v I))]
@[reducible] def sp_boText_l3_L : List (Nat × Sh) := [(1, (.bx 66 (.v tboGrid))), (3, (.v T.s)), (4, (.v I))]
def sp_boText_j7s (_k : Nat) (g_l3 : tboGrid.in → (List Int) → Int → Option (List Int)) (x1 : tboGrid.in) (x3 : (List Int)) (x4 : Int) : Option (List Int) :=
  cut (IntKind.i64.wrap (x4 * x1.1)) (IntKind.i64.wrap ((IntKind.i64.wrap (x4 + (1 : Int))) * x1.1)) (x1.2.2.1.length) (
    if x3.length + ((x1.2.2.1.take ((IntKind.i64.wrap ((IntKind.i64.wrap (x4 + (1 : Int))) * x1.1))).toNat).drop ((IntKind.i64.wrap (x4 * x1.1))).toNat).length ≤ 17179869184 then (
      g_l3 x1 (x3 ++ ((x1.2.2.1.take ((IntKind.i64.wrap ((IntKind.i64.wrap (x4 + (1 : Int))) * x1.1))).toNat).drop ((IntKind.i64.wrap (x4 * x1.1))).toNat)) (IntKind.i64.wrap (x4 + (1 : Int)))) else none)
def sp_boText_j7 (k : Nat) (g_l3 : tboGrid.in → (List Int) → Int → Option (List Int)) : Nat → tboGrid.in → (List Int) → Int → Option (List Int)
  | 0, _, _, _ => none
  | _ + 1, x1, x3, x4 => sp_boText_j7s k g_l3 x1 x3 x4
def sp_boText_l3s (_k : Nat) (c_j7 : (tboGrid.in → (List Int) → Int → Option (List Int)) → tboGrid.in → (List Int) → Int → Option (List Int)) (g_l3 : tboGrid.in → (List Int) → Int → Option (List Int)) (x1 : tboGrid.in) (x3 : (List Int)) (x4 : Int) : Option (List Int) :=
  if (decide (x4 < x1.2.1)) = true then
    if (decide ((0 : Int) < x4)) = true then
      if x3.length + ([47] : List Int).length ≤ 17179869184 then (
        c_j7 g_l3 x1 (x3 ++ ([47] : List Int)) x4) else none
    else
      c_j7 g_l3 x1 x3 x4
  else
    some x3
def sp_boText_l3 (k : Nat)  : Nat → tboGrid.in → (List Int) → Int → Option (List Int)
  | 0, _, _, _ => none
  | n + 1, x1, x3, x4 => sp_boText_l3s k (fun g0 => sp_boText_j7 k g0 k) (sp_boText_l3 k n) x1 x3 x4
def sp_boText_s (_k : Nat) (c_l3 : tboGrid.in → (List Int) → Int → Option (List Int)) (x0 : tboGrid.in) : Option (List Int) :=
  c_l3 x0 ([] : List Int) (0 : Int)
def sp_boText (k : Nat) (x0 : tboGrid.in) : Option (List Int) := sp_boText_s k (sp_boText_l3 k k) x0
noncomputable def sp_boText_O (k : Nat) : Orc := { ps := [.v tboGrid], rt := (.v T.s), F := fun x => sp_boText k x.1 }
noncomputable def sp_boText_E (k : Nat) : Env := { ty := tabTy Tryd_tab, ds := tabDs Tryd_tab, rounds := k, nt := 31, orc := fun _ => none, lp := fun i => if Nat.beq i 3 = true then some sp_boText_l3_L else (none), ct := fun i => if Nat.beq i 7 = true then some sp_boText_j7_L else (none), plan := fun _ => none }
noncomputable def sp_boText_fin (k : Nat) : Kn (List Int) := finish (sp_boText_E k) [.v tboGrid] (.v T.s) Tryd.f46.results.toList
noncomputable def sp_boText_j7_e (k : Nat) (g_l3 : tboGrid.in → (List Int) → Int → Option (List Int)) (n : Nat) (x1 : tboGrid.in) (x3 : (List Int)) (x4 : Int) : Option (List Int) := joinF (sp_boText_E k) sp_boText_j7_L (ev (sp_boText_E k) (sub (bodyOf Tryd.f46) [.r, .r, .l, .r, .c, .c, .r, .l, .c, .r])) (kont (sp_boText_E k) (bodyOf Tryd.f46) [.r, .r, .l, .r, .c, .c, .r, .l, .c, .r] [⟨sp_boText_l3_L, fun d => g_l3 d.1 d.2.1 d.2.2.1⟩] (sp_boText_fin k)) n (x1, x3, x4, ())
theorem sp_boText_j7_z (k : Nat) (g_l3 : tboGrid.in → (List Int) → Int → Option (List Int)) (x1 : tboGrid.in) (x3 : (List Int)) (x4 : Int) : sp_boText_j7_e k g_l3 0 x1 x3 x4 = none := by kernel_rfl
theorem sp_boText_j7_st (k : Nat) (g_l3 : tboGrid.in → (List Int) → Int → Option (List Int)) (n : Nat) (x1 : tboGrid.in) (x3 : (List Int)) (x4 : Int) : sp_boText_j7_e k g_l3 (n + 1) x1 x3 x4 = sp_boText_j7s k g_l3 x1 x3 x4 := by kernel_rfl
theorem sp_boText_j7_ev (k : Nat) (g_l3 : tboGrid.in → (List Int) → Int → Option (List Int)) : ∀ (n : Nat) (x1 : tboGrid.in) (x3 : (List Int)) (x4 : Int), sp_boText_j7_e k g_l3 n x1 x3 x4 = sp_boText_j7 k g_l3 n x1 x3 x4
  | 0, x1, x3, x4 => sp_boText_j7_z k g_l3 x1 x3 x4
  | n + 1, x1, x3, x4 => by
    skip
    rw [sp_boText_j7_st]; rfl
noncomputable def sp_boText_l3_e (k : Nat)  (n : Nat) (x1 : tboGrid.in) (x3 : (List Int)) (x4 : Int) : Option (List Int) := loopF (sp_boText_E k) sp_boText_l3_L (ev (sp_boText_E k) (sub (bodyOf Tryd.f46) [.r, .r, .l, .r, .c, .c])) (kont (sp_boText_E k) (bodyOf Tryd.f46) [.r, .r, .l, .r, .c] [] (sp_boText_fin k)) n (x1, x3, x4, ())
theorem sp_boText_l3_z (k : Nat)  (x1 : tboGrid.in) (x3 : (List Int)) (x4 : Int) : sp_boText_l3_e k 0 x1 x3 x4 = none := by kernel_rfl
theorem sp_boText_l3_st (k : Nat)  (n : Nat) (x1 : tboGrid.in) (x3 : (List Int)) (x4 : Int) : sp_boText_l3_e k (n + 1) x1 x3 x4 = sp_boText_l3s k (fun g0 => sp_boText_j7_e k g0 k) (sp_boText_l3_e k n) x1 x3 x4 := by kernel_rfl
theorem sp_boText_l3_ev (k : Nat)  : ∀ (n : Nat) (x1 : tboGrid.in) (x3 : (List Int)) (x4 : Int), sp_boText_l3_e k n x1 x3 x4 = sp_boText_l3 k n x1 x3 x4
  | 0, x1, x3, x4 => sp_boText_l3_z k x1 x3 x4
  | n + 1, x1, x3, x4 => by
    have h0 : (fun g0 => sp_boText_j7_e k g0 k) = (fun g0 => sp_boText_j7 k g0 k) := by funext g0 y0 y1 y2; exact sp_boText_j7_ev k g0 k y0 y1 y2
    have ih : (sp_boText_l3_e k n) = sp_boText_l3 k n := by funext y0 y1 y2; exact sp_boText_l3_ev k n y0 y1 y2
    rw [sp_boText_l3_st, h0, ih]; rfl
theorem sp_boText_st (k : Nat) (x0 : tboGrid.in) : evFun (sp_boText_E k) [.v tboGrid] (.v T.s) Tryd.f46 (x0, ()) = sp_boText_s k (sp_boText_l3_e k k) x0 := by kernel_rfl
theorem sp_boText_ev (k : Nat) (x0 : tboGrid.in) : evFun (sp_boText_E k) [.v tboGrid] (.v T.s) Tryd.f46 (x0, ()) = sp_boText k x0 := by
  have h0 : (sp_boText_l3_e k k) = (sp_boText_l3 k k) := by funext y0 y1 y2; exact sp_boText_l3_ev k k y0 y1 y2
  rw [sp_boText_st, h0]; rfl
theorem sp_boText_c (k : Nat) : Contract Tryd.prog 46 (sp_boText_O k) :=
  fun_sound (c := bodyOf Tryd.f46) (tab_ok Tryd_tab_ok rfl rfl) orc_nil Tryd.func46 (by kernel_rfl) rfl (by kernel_rfl) (by decide) rfl rfl (by kernel_rfl) (by kernel_rfl) (by kernel_rfl) (fun x _ h => (sp_boText_ev k x.1).trans h)
end Ev
/- loop.example/g01207/spec.boTurn -/
namespace Ev
open Go Go.Proofs
/-! spec.boTurn -/
@[reducible] def sp_boTurn_l6_L : List (Nat × Sh) := [(1, (.bx 66 (.v tboGrid))), (2, (.bx 66 (.pr (.v I) (.pr (.v I) (.pr (.o 5 (.i .u8)) .un))))), (3, (.bx 66 (.pr (.v I) (.pr (.v I) (.pr (.o 5 (.i .u8)) .un))))), (4, (.v I)), (5, (.v I))]
@[reducible] def sp_boTurn_l3_L : List (Nat × Sh) := [(1, (.bx 66 (.v tboGrid))), (2, (.bx 66 (.pr (.v I) (.pr (.v I) (.pr (.o 5 (.i .u8)) .un))))), (3, (.bx 66 (.pr (.v I) (.pr (.v I) (.pr (.o 5 (.i .u8)) .un))))), (4, (.v I))]
def sp_boTurn_l6s (_k : Nat) (g_l3 : tboGrid.in → (Int × (Int × ((List Int) × Unit))) → (Int × (Int × ((List Int) × Unit))) → Int → Option tboGrid.in) (g_l6 : tboGrid.in → (Int × (Int × ((List Int) × Unit))) → (Int × (Int × ((List Int) × Unit))) → Int → Int → Option tboGrid.in) (x1 : tboGrid.in) (x2 : (Int × (Int × ((List Int) × Unit)))) (x3 : (Int × (Int × ((List Int) × Unit)))) (x4 : Int) (x5 : Int) : Option tboGrid.in :=
  if (decide ((0 : Int) ≤ x5)) = true then
    inb (IntKind.i64.wrap ((IntKind.i64.wrap (x5 * x1.1)) + x4)) x1.2.2.1.length (
      if x3.2.2.1.length + ([(rdT (.i .u8) x1.2.2.1 (IntKind.i64.wrap ((IntKind.i64.wrap (x5 * x1.1)) + x4)))] : List Int).length ≤ 17179869184 then (
        g_l6 x1 (x2.1, x2.2.1, x2.2.2.1, ()) (x3.1, x3.2.1, (x3.2.2.1 ++ ([(rdT (.i .u8) x1.2.2.1 (IntKind.i64.wrap ((IntKind.i64.wrap (x5 * x1.1)) + x4)))] : List Int)), ()) x4 (IntKind.i64.wrap (x5 - (1 : Int)))) else none)
  else
    g_l3 x1 (x2.1, x2.2.1, x2.2.2.1, ()) (x3.1, x3.2.1, x3.2.2.1, ()) (IntKind.i64.wrap (x4 + (1 : Int)))
def sp_boTurn_l6 (k : Nat) (g_l3 : tboGrid.in → (Int × (Int × ((List Int) × Unit))) → (Int × (Int × ((List Int) × Unit))) → Int → Option tboGrid.in) : Nat → tboGrid.in → (Int × (Int × ((List Int) × Unit))) → (Int × (Int × ((List Int) × Unit))) → Int → Int → Option tboGrid.in
  | 0, _, _, _, _, _ => none
  | n + 1, x1, x2, x3, x4, x5 => sp_boTurn_l6s k g_l3 (sp_boTurn_l6 k g_l3 n) x1 x2 x3 x4 x5
def sp_boTurn_l3s (_k : Nat) (c_l6 : (tboGrid.in → (Int × (Int × ((List Int) × Unit))) → (Int × (Int × ((List Int) × Unit))) → Int → Option tboGrid.in) → tboGrid.in → (Int × (Int × ((List Int) × Unit))) → (Int × (Int × ((List Int) × Unit))) → Int → Int → Option tboGrid.in) (g_l3 : tboGrid.in → (Int × (Int × ((List Int) × Unit))) → (Int × (Int × ((List Int) × Unit))) → Int → Option tboGrid.in) (x1 : tboGrid.in) (x2 : (Int × (Int × ((List Int) × Unit)))) (x3 : (Int × (Int × ((List Int) × Unit)))) (x4 : Int) : Option tboGrid.in :=
  if (decide (x4 < x1.1)) = true then
    c_l6 g_l3 x1 (x2.1, x2.2.1, x2.2.2.1, ()) (x3.1, x3.2.1, x3.2.2.1, ()) x4 (IntKind.i64.wrap (x1.2.1 - (1 : Int)))
  else
    some (x3.1, x3.2.1, x3.2.2.1, ())
def sp_boTurn_l3 (k : Nat)  : Nat → tboGrid.in → (Int × (Int × ((List Int) × Unit))) → (Int × (Int × ((List Int) × Unit))) → Int → Option tboGrid.in
  | 0, _, _, _, _ => none
  | n + 1, x1, x2, x3, x4 => sp_boTurn_l3s k (fun g0 => sp_boTurn_l6 k g0 k) (sp_boTurn_l3 k n) x1 x2 x3 x4
def sp_boTurn_s (_k : Nat) (c_l3 : tboGrid.in → (Int × (Int × ((List Int) × Unit))) → (Int × (Int × ((List Int) × Unit))) → Int → Option tboGrid.in) (x0 : tboGrid.in) : Option tboGrid.in :=
  c_l3 x0 ((0 : Int), (0 : Int), ([] : List Int), ()) (x0.2.1, x0.1, ([] : List Int), ()) (0 : Int)
def sp_boTurn (k : Nat) (x0 : tboGrid.in) : Option tboGrid.in := sp_boTurn_s k (sp_boTurn_l3 k k) x0
noncomputable def sp_boTurn_O (k : Nat) : Orc := { ps := [.v tboGrid], rt := (.v tboGrid), F := fun x => sp_boTurn k x.1 }
noncomputable def sp_boTurn_E (k : Nat) : Env := { ty := tabTy Tryd_tab, ds := tabDs Tryd_tab, rounds := k, nt := 40, orc := fun _ => none, lp := fun i => if Nat.beq i 3 = true then some sp_boTurn_l3_L else (if Nat.beq i 6 = true then some sp_boTurn_l6_L else (none)), ct := fun _ => none, plan := fun i => if Nat.beq i 8 = true then some [(0, []), (1, []), (2, []), (3, []), (4, []), (5, []), (6, []), (7, []), (8, []), (9, []), (10, []), (11, []), (12, []), (13, []), (14, []), (15, [])] else (none) }
noncomputable def sp_boTurn_fin (k : Nat) : Kn tboGrid.in := finish (sp_boTurn_E k) [.v tboGrid] (.v tboGrid) Tryd.f47.results.toList
noncomputable def sp_boTurn_l6_e (k : Nat) (g_l3 : tboGrid.in → (Int × (Int × ((List Int) × Unit))) → (Int × (Int × ((List Int) × Unit))) → Int → Option tboGrid.in) (n : Nat) (x1 : tboGrid.in) (x2 : (Int × (Int × ((List Int) × Unit)))) (x3 : (Int × (Int × ((List Int) × Unit)))) (x4 : Int) (x5 : Int) : Option tboGrid.in := loopF (sp_boTurn_E k) sp_boTurn_l6_L (ev (sp_boTurn_E k) (sub (bodyOf Tryd.f47) [.r, .r, .l, .r, .c, .c, .r, .l, .c, .r, .c, .c])) (kont (sp_boTurn_E k) (bodyOf Tryd.f47) [.r, .r, .l, .r, .c, .c, .r, .l, .c, .r, .c] [⟨sp_boTurn_l3_L, fun d => g_l3 d.1 d.2.1 d.2.2.1 d.2.2.2.1⟩] (sp_boTurn_fin k)) n (x1, x2, x3, x4, x5, ())
theorem sp_boTurn_l6_z (k : Nat) (g_l3 : tboGrid.in → (Int × (Int × ((List Int) × Unit))) → (Int × (Int × ((List Int) × Unit))) → Int → Option tboGrid.in) (x1 : tboGrid.in) (x2 : (Int × (Int × ((List Int) × Unit)))) (x3 : (Int × (Int × ((List Int) × Unit)))) (x4 : Int) (x5 : Int) : sp_boTurn_l6_e k g_l3 0 x1 x2 x3 x4 x5 = none := by kernel_rfl
theorem sp_boTurn_l6_st (k : Nat) (g_l3 : tboGrid.in → (Int × (Int × ((List Int) × Unit))) → (Int × (Int × ((List Int) × Unit))) → Int → Option tboGrid.in) (n : Nat) (x1 : tboGrid.in) (x2 : (Int × (Int × ((List Int) × Unit)))) (x3 : (Int × (Int × ((List Int) × Unit)))) (x4 : Int) (x5 : Int) : sp_boTurn_l6_e k g_l3 (n + 1) x1 x2 x3 x4 x5 = sp_boTurn_l6s k g_l3 (sp_boTurn_l6_e k g_l3 n) x1 x2 x3 x4 x5 := by kernel_rfl
theorem sp_boTurn_l6_ev (k : Nat) (g_l3 : tboGrid.in → (Int × (Int × ((List Int) × Unit))) → (Int × (Int × ((List Int) × Unit))) → Int → Option tboGrid.in) : ∀ (n : Nat) (x1 : tboGrid.in) (x2 : (Int × (Int × ((List Int) × Unit)))) (x3 : (Int × (Int × ((List Int) × Unit)))) (x4 : Int) (x5 : Int), sp_boTurn_l6_e k g_l3 n x1 x2 x3 x4 x5 = sp_boTurn_l6 k g_l3 n x1 x2 x3 x4 x5
  | 0, x1, x2, x3, x4, x5 => sp_boTurn_l6_z k g_l3 x1 x2 x3 x4 x5
  | n + 1, x1, x2, x3, x4, x5 => by
    have ih : (sp_boTurn_l6_e k g_l3 n) = sp_boTurn_l6 k g_l3 n := by funext y0 y1 y2 y3 y4; exact sp_boTurn_l6_ev k g_l3 n y0 y1 y2 y3 y4
    rw [sp_boTurn_l6_st, ih]; rfl
noncomputable def sp_boTurn_l3_e (k : Nat)  (n : Nat) (x1 : tboGrid.in) (x2 : (Int × (Int × ((List Int) × Unit)))) (x3 : (Int × (Int × ((List Int) × Unit)))) (x4 : Int) : Option tboGrid.in := loopF (sp_boTurn_E k) sp_boTurn_l3_L (ev (sp_boTurn_E k) (sub (bodyOf Tryd.f47) [.r, .r, .l, .r, .c, .c])) (kont (sp_boTurn_E k) (bodyOf Tryd.f47) [.r, .r, .l, .r, .c] [] (sp_boTurn_fin k)) n (x1, x2, x3, x4, ())
theorem sp_boTurn_l3_z (k : Nat)  (x1 : tboGrid.in) (x2 : (Int × (Int × ((List Int) × Unit)))) (x3 : (Int × (Int × ((List Int) × Unit)))) (x4 : Int) : sp_boTurn_l3_e k 0 x1 x2 x3 x4 = none := by kernel_rfl
theorem sp_boTurn_l3_st (k : Nat)  (n : Nat) (x1 : tboGrid.in) (x2 : (Int × (Int × ((List Int) × Unit)))) (x3 : (Int × (Int × ((List Int) × Unit)))) (x4 : Int) : sp_boTurn_l3_e k (n + 1) x1 x2 x3 x4 = sp_boTurn_l3s k (fun g0 => sp_boTurn_l6_e k g0 k) (sp_boTurn_l3_e k n) x1 x2 x3 x4 := by kernel_rfl
theorem sp_boTurn_l3_ev (k : Nat)  : ∀ (n : Nat) (x1 : tboGrid.in) (x2 : (Int × (Int × ((List Int) × Unit)))) (x3 : (Int × (Int × ((List Int) × Unit)))) (x4 : Int), sp_boTurn_l3_e k n x1 x2 x3 x4 = sp_boTurn_l3 k n x1 x2 x3 x4
  | 0, x1, x2, x3, x4 => sp_boTurn_l3_z k x1 x2 x3 x4
  | n + 1, x1, x2, x3, x4 => by
    have h0 : (fun g0 => sp_boTurn_l6_e k g0 k) = (fun g0 => sp_boTurn_l6 k g0 k) := by funext g0 y0 y1 y2 y3 y4; exact sp_boTurn_l6_ev k g0 k y0 y1 y2 y3 y4
    have ih : (sp_boTurn_l3_e k n) = sp_boTurn_l3 k n := by funext y0 y1 y2 y3; exact sp_boTurn_l3_ev k n y0 y1 y2 y3
    rw [sp_boTurn_l3_st, h0, ih]; rfl
theorem sp_boTurn_st (k : Nat) (x0 : tboGrid.in) : evFun (sp_boTurn_E k) [.v tboGrid] (.v tboGrid) Tryd.f47 (x0, ()) = sp_boTurn_s k (sp_boTurn_l3_e k k) x0 := by kernel_rfl
theorem sp_boTurn_ev (k : Nat) (x0 : tboGrid.in) : evFun (sp_boTurn_E k) [.v tboGrid] (.v tboGrid) Tryd.f47 (x0, ()) = sp_boTurn k x0 := by
  have h0 : (sp_boTurn_l3_e k k) = (sp_boTurn_l3 k k) := by funext y0 y1 y2 y3; exact sp_boTurn_l3_ev k k y0 y1 y2 y3
  rw [sp_boTurn_st, h0]; rfl
theorem sp_boTurn_c (k : Nat) : Contract Tryd.prog 47 (sp_boTurn_O k) :=
  fun_sound (c := bodyOf Tryd.f47) (tab_ok Tryd_tab_ok rfl rfl) orc_nil Tryd.func47 (by kernel_rfl) rfl (by kernel_rfl) (by decide) rfl rfl (by kernel_rfl) (by kernel_rfl) (by kernel_rfl) (fun x _ h => (sp_boTurn_ev k x.1).trans h)
end Ev
/- (loop.example/g01207/impl.grid).turn -/
namespace Ev
open Go Go.Proofs
/-! (impl.grid).turn -/
@[reducible] def im_grid_turn_l7_L : List (Nat × Sh) := [(0, (.v (.sl T.s))), (3, (.o 9 T.s)), (4, (.v I)), (5, (.o 5 (.i .u8))), (6, (.v I)), (11, (.v I)), (12, (.v I))]
@[reducible] def im_grid_turn_l3_L : List (Nat × Sh) := [(0, (.v (.sl T.s))), (3, (.o 9 T.s)), (11, (.v I)), (12, (.v I))]
def im_grid_turn_l7s (_k : Nat) (g_l3 : (List (List Int)) → (List (List Int)) → Int → Int → Option (List (List Int))) (g_l7 : (List (List Int)) → (List (List Int)) → Int → (List Int) → Int → Int → Int → Option (List (List Int))) (x0 : (List (List Int))) (x3 : (List (List Int))) (x4 : Int) (x5 : (List Int)) (x6 : Int) (x11 : Int) (x12 : Int) : Option (List (List Int)) :=
  if (decide ((0 : Int) ≤ x6)) = true then
    inb x6 x0.length (
      inb x4 (rdT T.s x0 x6).length (
        if x5.length + ([((rdT T.s x0 x6).getD (x4).toNat 0)] : List Int).length ≤ 17179869184 then (
          g_l7 x0 x3 x4 (x5 ++ ([((rdT T.s x0 x6).getD (x4).toNat 0)] : List Int)) (IntKind.i64.wrap (x6 - (1 : Int))) x11 x12) else none))
  else
    if x3.length + ([x5] : List (List Int)).length ≤ 17179869184 then (
      g_l3 x0 (x3 ++ ([x5] : List (List Int))) x11 (IntKind.i64.wrap (x12 + (1 : Int)))) else none
def im_grid_turn_l7 (k : Nat) (g_l3 : (List (List Int)) → (List (List Int)) → Int → Int → Option (List (List Int))) : Nat → (List (List Int)) → (List (List Int)) → Int → (List Int) → Int → Int → Int → Option (List (List Int))
  | 0, _, _, _, _, _, _, _ => none
  | n + 1, x0, x3, x4, x5, x6, x11, x12 => im_grid_turn_l7s k g_l3 (im_grid_turn_l7 k g_l3 n) x0 x3 x4 x5 x6 x11 x12
def im_grid_turn_l3s (_k : Nat) (c_l7 : ((List (List Int)) → (List (List Int)) → Int → Int → Option (List (List Int))) → (List (List Int)) → (List (List Int)) → Int → (List Int) → Int → Int → Int → Option (List (List Int))) (g_l3 : (List (List Int)) → (List (List Int)) → Int → Int → Option (List (List Int))) (x0 : (List (List Int))) (x3 : (List (List Int))) (x11 : Int) (x12 : Int) : Option (List (List Int)) :=
  if (decide (x12 < x11)) = true then
    c_l7 g_l3 x0 x3 x12 ([] : List Int) (IntKind.i64.wrap ((x0.length : Int) - (1 : Int))) x11 x12
  else
    some x3
def im_grid_turn_l3 (k : Nat)  : Nat → (List (List Int)) → (List (List Int)) → Int → Int → Option (List (List Int))
  | 0, _, _, _, _ => none
  | n + 1, x0, x3, x11, x12 => im_grid_turn_l3s k (fun g0 => im_grid_turn_l7 k g0 k) (im_grid_turn_l3 k n) x0 x3 x11 x12
def im_grid_turn_s (_k : Nat) (c_l3 : (List (List Int)) → (List (List Int)) → Int → Int → Option (List (List Int))) (x0 : (List (List Int))) : Option (List (List Int)) :=
  inb (0 : Int) x0.length (
    c_l3 x0 ([] : List (List Int)) ((rdT T.s x0 (0 : Int)).length : Int) (0 : Int))
def im_grid_turn (k : Nat) (x0 : (List (List Int))) : Option (List (List Int)) := im_grid_turn_s k (im_grid_turn_l3 k k) x0
noncomputable def im_grid_turn_O (k : Nat) : Orc := { ps := [.v (.sl T.s)], rt := (.o 9 T.s), F := fun x => im_grid_turn k x.1 }
noncomputable def im_grid_turn_E (k : Nat) : Env := { ty := tabTy Tryd_tab, ds := tabDs Tryd_tab, rounds := k, nt := 39, orc := fun _ => none, lp := fun i => if Nat.beq i 3 = true then some im_grid_turn_l3_L else (if Nat.beq i 7 = true then some im_grid_turn_l7_L else (none)), ct := fun _ => none, plan := fun _ => none }
noncomputable def im_grid_turn_fin (k : Nat) : Kn (List (List Int)) := finish (im_grid_turn_E k) [.v (.sl T.s)] (.o 9 T.s) Tryd.f92.results.toList
noncomputable def im_grid_turn_l7_e (k : Nat) (g_l3 : (List (List Int)) → (List (List Int)) → Int → Int → Option (List (List Int))) (n : Nat) (x0 : (List (List Int))) (x3 : (List (List Int))) (x4 : Int) (x5 : (List Int)) (x6 : Int) (x11 : Int) (x12 : Int) : Option (List (List Int)) := loopF (im_grid_turn_E k) im_grid_turn_l7_L (ev (im_grid_turn_E k) (sub (bodyOf Tryd.f92) [.r, .r, .l, .r, .c, .c, .r, .r, .l, .c, .r, .r, .l, .r, .c, .c])) (kont (im_grid_turn_E k) (bodyOf Tryd.f92) [.r, .r, .l, .r, .c, .c, .r, .r, .l, .c, .r, .r, .l, .r, .c] [⟨im_grid_turn_l3_L, fun d => g_l3 d.1 d.2.1 d.2.2.1 d.2.2.2.1⟩] (im_grid_turn_fin k)) n (x0, x3, x4, x5, x6, x11, x12, ())
theorem im_grid_turn_l7_z (k : Nat) (g_l3 : (List (List Int)) → (List (List Int)) → Int → Int → Option (List (List Int))) (x0 : (List (List Int))) (x3 : (List (List Int))) (x4 : Int) (x5 : (List Int)) (x6 : Int) (x11 : Int) (x12 : Int) : im_grid_turn_l7_e k g_l3 0 x0 x3 x4 x5 x6 x11 x12 = none := by kernel_rfl
theorem im_grid_turn_l7_st (k : Nat) (g_l3 : (List (List Int)) → (List (List Int)) → Int → Int → Option (List (List Int))) (n : Nat) (x0 : (List (List Int))) (x3 : (List (List Int))) (x4 : Int) (x5 : (List Int)) (x6 : Int) (x11 : Int) (x12 : Int) : im_grid_turn_l7_e k g_l3 (n + 1) x0 x3 x4 x5 x6 x11 x12 = im_grid_turn_l7s k g_l3 (im_grid_turn_l7_e k g_l3 n) x0 x3 x4 x5 x6 x11 x12 := by kernel_rfl
theorem im_grid_turn_l7_ev (k : Nat) (g_l3 : (List (List Int)) → (List (List Int)) → Int → Int → Option (List (List Int))) : ∀ (n : Nat) (x0 : (List (List Int))) (x3 : (List (List Int))) (x4 : Int) (x5 : (List Int)) (x6 : Int) (x11 : Int) (x12 : Int), im_grid_turn_l7_e k g_l3 n x0 x3 x4 x5 x6 x11 x12 = im_grid_turn_l7 k g_l3 n x0 x3 x4 x5 x6 x11 x12
  | 0, x0, x3, x4, x5, x6, x11, x12 => im_grid_turn_l7_z k g_l3 x0 x3 x4 x5 x6 x11 x12
  | n + 1, x0, x3, x4, x5, x6, x11, x12 => by
    have ih : (im_grid_turn_l7_e k g_l3 n) = im_grid_turn_l7 k g_l3 n := by funext y0 y1 y2 y3 y4 y5 y6; exact im_grid_turn_l7_ev k g_l3 n y0 y1 y2 y3 y4 y5 y6
    rw [im_grid_turn_l7_st, ih]; rfl
noncomputable def im_grid_turn_l3_e (k : Nat)  (n : Nat) (x0 : (List (List Int))) (x3 : (List (List Int))) (x11 : Int) (x12 : Int) : Option (List (List Int)) := loopF (im_grid_turn_E k) im_grid_turn_l3_L (ev (im_grid_turn_E k) (sub (bodyOf Tryd.f92) [.r, .r, .l, .r, .c, .c])) (kont (im_grid_turn_E k) (bodyOf Tryd.f92) [.r, .r, .l, .r, .c] [] (im_grid_turn_fin k)) n (x0, x3, x11, x12, ())
theorem im_grid_turn_l3_z (k : Nat)  (x0 : (List (List Int))) (x3 : (List (List Int))) (x11 : Int) (x12 : Int) : im_grid_turn_l3_e k 0 x0 x3 x11 x12 = none := by kernel_rfl
theorem im_grid_turn_l3_st (k : Nat)  (n : Nat) (x0 : (List (List Int))) (x3 : (List (List Int))) (x11 : Int) (x12 : Int) : im_grid_turn_l3_e k (n + 1) x0 x3 x11 x12 = im_grid_turn_l3s k (fun g0 => im_grid_turn_l7_e k g0 k) (im_grid_turn_l3_e k n) x0 x3 x11 x12 := by kernel_rfl
theorem im_grid_turn_l3_ev (k : Nat)  : ∀ (n : Nat) (x0 : (List (List Int))) (x3 : (List (List Int))) (x11 : Int) (x12 : Int), im_grid_turn_l3_e k n x0 x3 x11 x12 = im_grid_turn_l3 k n x0 x3 x11 x12
  | 0, x0, x3, x11, x12 => im_grid_turn_l3_z k x0 x3 x11 x12
  | n + 1, x0, x3, x11, x12 => by
    have h0 : (fun g0 => im_grid_turn_l7_e k g0 k) = (fun g0 => im_grid_turn_l7 k g0 k) := by funext g0 y0 y1 y2 y3 y4 y5 y6; exact im_grid_turn_l7_ev k g0 k y0 y1 y2 y3 y4 y5 y6
    have ih : (im_grid_turn_l3_e k n) = im_grid_turn_l3 k n := by funext y0 y1 y2 y3; exact im_grid_turn_l3_ev k n y0 y1 y2 y3
    rw [im_grid_turn_l3_st, h0, ih]; rfl
theorem im_grid_turn_st (k : Nat) (x0 : (List (List Int))) : evFun (im_grid_turn_E k) [.v (.sl T.s)] (.o 9 T.s) Tryd.f92 (x0, ()) = im_grid_turn_s k (im_grid_turn_l3_e k k) x0 := by kernel_rfl
theorem im_grid_turn_ev (k : Nat) (x0 : (List (List Int))) : evFun (im_grid_turn_E k) [.v (.sl T.s)] (.o 9 T.s) Tryd.f92 (x0, ()) = im_grid_turn k x0 := by
  have h0 : (im_grid_turn_l3_e k k) = (im_grid_turn_l3 k k) := by funext y0 y1 y2 y3; exact im_grid_turn_l3_ev k k y0 y1 y2 y3
  rw [im_grid_turn_st, h0]; rfl
theorem im_grid_turn_c (k : Nat) : Contract Tryd.prog 92 (im_grid_turn_O k) :=
  fun_sound (c := bodyOf Tryd.f92) (tab_ok Tryd_tab_ok rfl rfl) orc_nil Tryd.func92 (by kernel_rfl) rfl (by kernel_rfl) (by decide) rfl rfl (by kernel_rfl) (by kernel_rfl) (by kernel_rfl) (fun x _ h => (im_grid_turn_ev k x.1).trans h)
end Ev
/- A library function. -/
/- (loop.example/g01207/impl.grid).text -/
namespace Ev
open Go Go.Proofs
/-! (impl.grid).text -/
def im_grid_text_s (k : Nat) (x0 : (List (List Int))) : Option (List Int) :=
  (strings_Join k x0 ([47] : List Int)).bind fun r1 =>
  some r1
def im_grid_text (k : Nat) (x0 : (List (List Int))) : Option (List Int) := im_grid_text_s k x0
noncomputable def im_grid_text_O (k : Nat) : Orc := { ps := [.v (.sl T.s)], rt := (.v T.s), F := fun x => im_grid_text k x.1 }
noncomputable def im_grid_text_E (k : Nat) : Env := { ty := tabTy Tryd_tab, ds := tabDs Tryd_tab, rounds := k, nt := 5, orc := fun g => if Nat.beq g 77 = true then some (strings_Join_O k) else (none), lp := fun _ => none, ct := fun _ => none, plan := fun _ => none }
noncomputable def im_grid_text_fin (k : Nat) : Kn (List Int) := finish (im_grid_text_E k) [.v (.sl T.s)] (.v T.s) Tryd.f62.results.toList
theorem im_grid_text_st (k : Nat) (x0 : (List (List Int))) : evFun (im_grid_text_E k) [.v (.sl T.s)] (.v T.s) Tryd.f62 (x0, ()) = im_grid_text_s k x0 := by kernel_rfl
theorem im_grid_text_ev (k : Nat) (x0 : (List (List Int))) : evFun (im_grid_text_E k) [.v (.sl T.s)] (.v T.s) Tryd.f62 (x0, ()) = im_grid_text k x0 := by
  skip
  rw [im_grid_text_st]; rfl
theorem im_grid_text_c (k : Nat) : Contract Tryd.prog 62 (im_grid_text_O k) :=
  fun_sound (c := bodyOf Tryd.f62) (tab_ok Tryd_tab_ok rfl rfl) (orc_cons (strings_Join_c k) orc_nil) Tryd.func62 (by kernel_rfl) rfl (by kernel_rfl) (by decide) rfl rfl (by kernel_rfl) (by kernel_rfl) (by kernel_rfl) (fun x _ h => (im_grid_text_ev k x.1).trans h)
end Ev
/- Plain laws: the text of a board and the turned board. -/
namespace Ev
open Go

/-- The text of rows. -/
def jnT (g : List (List Int)) : List Int := (g.map fun r => 47 :: r).flatten
def jn : List (List Int) → List Int
  | [] => []
  | r :: g => r ++ jnT g
theorem inter_is : ∀ (r : List Int) (g : List (List Int)), List.intercalate [47] (r :: g) = r ++ jnT g
  | r, [] => by simp [List.intercalate, jnT]
  | r, q :: g => by
    have := inter_is q g
    simp only [List.intercalate] at this ⊢
    rw [List.intersperse_cons_cons, List.flatten_cons, List.flatten_cons, this]
    simp [jnT]
theorem jn_is (g : List (List Int)) : sjoinI g [47] = jn g := by
  cases g with
  | nil => rfl
  | cons r g => exact inter_is r g
theorem jnT_len : ∀ g : List (List Int), (jnT g).length = g.flatten.length + g.length
  | [] => rfl
  | r :: g => by
    have := jnT_len g
    simp only [jnT, List.map_cons, List.flatten_cons, List.length_append, List.length_cons] at this ⊢
    omega
theorem jn_len (g : List (List Int)) : (jn g).length ≤ g.flatten.length + g.length := by
  cases g with
  | nil => simp [jn]
  | cons r g =>
    have := jnT_len g
    simp only [jn, List.length_append, List.flatten_cons, List.length_cons]
    omega
theorem Rc.flat {g : List (List Int)} {w h : Nat} (r : Rc g w h) : g.flatten.length = w * h ∧ w * h ≤ 7 * 7 := by
  refine ⟨?_, Nat.mul_le_mul r.w7 r.h7⟩
  rw [flat_len g r.row, r.len]
theorem text_is (k : Nat) {g : List (List Int)} {w h : Nat} (r : Rc g w h) : im_grid_text k g = some (jn g) := by
  have h1 := jn_len g
  have h2 := r.flat; have h3 := r.len; have h4 := r.h7
  show (strings_Join k g [47]).bind _ = _
  have : strings_Join k g [47] = some (jn g) := by
    show sjoinF _ _ = _
    unfold sjoinF
    rw [jn_is, if_pos (by omega), if_pos (by omega)]
  rw [this]; rfl
theorem flat_slice {w : Nat} : ∀ (g : List (List Int)) (j : Nat), (∀ r ∈ g, r.length = w) → j < g.length → (g.flatten.take ((j + 1) * w)).drop (j * w) = g.getD j []
  | [], _, _, h => by cases h
  | r :: g, 0, hr, _ => by
    have := hr r List.mem_cons_self
    simp [← this]
  | r :: g, j + 1, hr, hj => by
    have h1 := hr r List.mem_cons_self
    have ih := flat_slice g j (fun q hq => hr q (List.mem_cons_of_mem _ hq)) (by simpa using hj)
    have e1 : (j + 1 + 1) * w = r.length + (j + 1) * w := by rw [h1, Nat.add_mul (j + 1)]; omega
    have e2 : (j + 1) * w = r.length + j * w := by rw [h1, Nat.add_mul]; omega
    rw [e1, List.flatten_cons, List.take_length_add_append]
    have e3 : (r ++ g.flatten.take ((j + 1) * w)).drop ((j + 1) * w) = (g.flatten.take ((j + 1) * w)).drop (j * w) := by
      conv => lhs; arg 1; rw [e2]
      exact List.drop_length_add_append _
    rw [e3, ih]; rfl
theorem boText_loop (k : Nat) (hk : 2097152 ≤ k) {g : List (List Int)} {w h : Nat} (r : Rc g w h) : ∀ (d n j : Nat) (out : List Int), h = j + d → d < n → out.length ≤ 100 * j →
    sp_boText_l3 k n (gr g w h) out (j : Int) = some (out ++ if j = 0 then jn g else jnT (g.drop j))
  | 0, n + 1, j, out, hj, _, _ => by
    have hl := r.len; have h1 := r.h1
    show sp_boText_l3s k _ _ _ _ _ = _
    unfold sp_boText_l3s
    have ew : (gr g w h).2.1 = (h : Int) := rfl
    rw [ew, if_neg (ndt (by omega)), List.drop_of_length_le (by omega), if_neg (by omega)]
    simp [jnT]
  | d + 1, n + 1, j, out, hj, hn, ho => by
    have hl := r.len; have h1 := r.h1; have h7 := r.h7; have w7 := r.w7; have hfl := r.flat
    have hlt : j < g.length := by omega
    have hrow : (g.getD j []).length = w := r.rowj (by omega)
    have m1 : j * w ≤ 7 * 7 := Nat.mul_le_mul (by omega) w7
    have m2 : (j + 1) * w ≤ h * w := Nat.mul_le_mul_right w (by omega)
    have m3 : j * w ≤ (j + 1) * w := Nat.mul_le_mul_right w (by omega)
    have m4 : h * w = w * h := Nat.mul_comm h w
    have hdr := getD_drop g j [] hlt
    have ih := fun o ho => boText_loop k hk r d n (j + 1) o (by omega) (by omega) ho
    have hj7 : ∀ o : List Int, o.length ≤ 100 * j + 1 → sp_boText_j7 k (sp_boText_l3 k n) k (gr g w h) o (j : Int) = some (o ++ g.getD j [] ++ jnT (g.drop (j + 1))) := by
      intro o ho
      obtain ⟨m, rfl⟩ : ∃ m, k = m + 1 := ⟨k - 1, by omega⟩
      show sp_boText_j7s (m + 1) _ _ _ _ = _
      unfold sp_boText_j7s
      have e1 : IntKind.i64.wrap ((j : Int) * (gr g w h).1) = ((j * w : Nat) : Int) := by
        show IntKind.i64.wrap ((j : Int) * (w : Int)) = _
        rw [mulI, wr (by omega)]
      have e0 : IntKind.i64.wrap ((j : Int) + 1) = ((j + 1 : Nat) : Int) := by rw [wr (by omega)]; rfl
      have e2 : IntKind.i64.wrap (((j + 1 : Nat) : Int) * (gr g w h).1) = (((j + 1) * w : Nat) : Int) := by
        show IntKind.i64.wrap (((j + 1 : Nat) : Int) * (w : Int)) = _
        rw [mulI, wr (by omega)]
      have e3 : ((gr g w h).2.2.1.take ((((j + 1) * w : Nat) : Int)).toNat).drop (((j * w : Nat) : Int)).toNat = g.getD j [] := flat_slice g j r.row hlt
      have e4 : (gr g w h).2.2.1.length = w * h := hfl.1
      rw [e0, e1, e2, cut_eq (by rw [e4]; omega), e3, if_pos (by omega), ih _ (by rw [List.length_append]; omega)]
      simp
    show sp_boText_l3s k _ _ _ _ _ = _
    unfold sp_boText_l3s
    have ew : (gr g w h).2.1 = (h : Int) := rfl
    rw [ew, if_pos (dt (by omega))]
    by_cases h0 : j = 0
    · rw [if_neg (ndt (by omega)), if_pos h0]
      refine (hj7 out (by omega)).trans ?_
      subst h0
      rw [List.drop_zero] at hdr
      rw [List.append_assoc]
      conv => rhs; rw [hdr]
      rfl
    · rw [if_pos (dt (by omega)), if_pos (by simp; omega), if_neg h0]
      refine (hj7 (out ++ [47]) (by simp; omega)).trans ?_
      rw [hdr]
      simp [jnT]
theorem boText_is (k : Nat) (hk : 2097152 ≤ k) {g : List (List Int)} {w h : Nat} (r : Rc g w h) : sp_boText k (gr g w h) = some (jn g) := by
  have := r.h7
  exact (boText_loop k hk r h k 0 [] (by omega) (by omega) (by simp)).trans (by simp)

/-! ### Turned rows -/
def colD (g : List (List Int)) (x : Nat) : Nat → List Int
  | 0 => []
  | j + 1 => (g.getD j []).getD x 0 :: colD g x j
def trnF (g : List (List Int)) (h : Nat) : Nat → Nat → List (List Int)
  | _, 0 => []
  | x, d + 1 => colD g x h :: trnF g h (x + 1) d
theorem colD_len (g : List (List Int)) (x : Nat) : ∀ j, (colD g x j).length = j
  | 0 => rfl
  | j + 1 => by simp [colD, colD_len g x j]
theorem trnF_len (g : List (List Int)) (h : Nat) : ∀ d x, (trnF g h x d).length = d
  | 0, _ => rfl
  | d + 1, x => by simp [trnF, trnF_len g h d (x + 1)]
theorem trnF_row (g : List (List Int)) (h : Nat) : ∀ d x, ∀ r ∈ trnF g h x d, r.length = h
  | 0, _, r, q => by cases q
  | d + 1, x, r, q => by
    rcases List.mem_cons.1 q with rfl | q
    · exact colD_len g x h
    · exact trnF_row g h d (x + 1) r q
theorem Rc.turn {g : List (List Int)} {w h : Nat} (r : Rc g w h) : Rc (trnF g h 0 w) h w := ⟨trnF_len g h w 0, trnF_row g h w 0, r.h1, r.h7, r.w1, r.w7⟩
theorem turn_in (k : Nat) {g : List (List Int)} {w h : Nat} (r : Rc g w h) (g3 : List (List Int) → List (List Int) → Int → Int → Option (List (List Int))) (x3 : List (List Int)) (x : Nat) (hx : x < w) (x11 : Int) (h3 : x3.length ≤ 100) : ∀ (j n : Nat) (o : List Int), j ≤ h → j < n → o.length + j ≤ 100 →
    im_grid_turn_l7 k g3 n g x3 (x : Int) o ((j : Int) - 1) x11 (x : Int) = g3 g (x3 ++ [o ++ colD g x j]) x11 ((x + 1 : Nat) : Int)
  | 0, n + 1, o, _, _, _ => by
    have w7 := r.w7
    show im_grid_turn_l7s k _ _ _ _ _ _ _ _ _ = _
    unfold im_grid_turn_l7s
    rw [if_neg (ndt (by omega)), if_pos (by simp; omega), wr (by omega)]
    simp [colD]
  | j + 1, n + 1, o, hj, hn, ho => by
    have hl := r.len; have h7 := r.h7
    show im_grid_turn_l7s k _ _ _ _ _ _ _ _ _ = _
    unfold im_grid_turn_l7s
    have e0 : ((j + 1 : Nat) : Int) - 1 = (j : Int) := by omega
    have e1 : rdT T.s g (j : Int) = g.getD j [] := rfl
    have e2 : (g.getD j []).length = w := r.rowj (by omega)
    have e3 : (g.getD j []).getD (x : Int).toNat 0 = (g.getD j []).getD x 0 := rfl
    rw [e0, if_pos (dt (by omega)), inb_eq (by omega), e1, e2, inb_eq (by omega), e3, if_pos (by simp; omega), wr (by omega)]
    rw [turn_in k r g3 x3 x hx x11 h3 j n _ (by omega) (by omega) (by simp; omega)]
    simp [colD]
theorem turn_loop (k : Nat) (hk : 2097152 ≤ k) {g : List (List Int)} {w h : Nat} (r : Rc g w h) : ∀ (d n x : Nat) (o : List (List Int)), w = x + d → d < n → o.length + d ≤ 100 →
    im_grid_turn_l3 k n g o (w : Int) (x : Int) = some (o ++ trnF g h x d)
  | 0, n + 1, x, o, hx, _, _ => by
    show im_grid_turn_l3s k _ _ _ _ _ _ = _
    unfold im_grid_turn_l3s
    rw [if_neg (ndt (by omega))]; simp [trnF]
  | d + 1, n + 1, x, o, hx, hn, ho => by
    have hl := r.len; have h7 := r.h7; have h1 := r.h1
    show im_grid_turn_l3s k _ _ _ _ _ _ = _
    unfold im_grid_turn_l3s
    rw [if_pos (dt (by omega)), hl, wr (by omega)]
    refine (turn_in k r _ o x (by omega) (w : Int) (by omega) h k [] (Nat.le_refl _) (by omega) (by simp; omega)).trans ?_
    rw [turn_loop k hk r d n (x + 1) _ (by omega) (by omega) (by simp; omega)]
    simp [trnF]
theorem turn_is (k : Nat) (hk : 2097152 ≤ k) {g : List (List Int)} {w h : Nat} (r : Rc g w h) : im_grid_turn k g = some (trnF g h 0 w) := by
  have hl := r.len; have h1 := r.h1; have w7 := r.w7
  have e1 : rdT T.s g 0 = g.getD 0 [] := rfl
  show inb 0 g.length _ = _
  rw [inb_eq (by omega), e1, r.row0]
  exact (turn_loop k hk r w k 0 [] (by omega) (by omega) (by simp; omega)).trans (by simp)
theorem boTurn_in (k : Nat) {g : List (List Int)} {w h : Nat} (r : Rc g w h) (g3 : tboGrid.in → (Int × (Int × ((List Int) × Unit))) → (Int × (Int × ((List Int) × Unit))) → Int → Option tboGrid.in) (x2 : Int × (Int × (List Int × Unit))) (a b : Int) (x : Nat) (hx : x < w) : ∀ (j n : Nat) (o : List Int), j ≤ h → j < n → o.length + j ≤ 100 →
    sp_boTurn_l6 k g3 n (gr g w h) x2 (a, b, o, ()) (x : Int) ((j : Int) - 1) = g3 (gr g w h) x2 (a, b, o ++ colD g x j, ()) ((x + 1 : Nat) : Int)
  | 0, n + 1, o, _, _, _ => by
    have w7 := r.w7
    show sp_boTurn_l6s k _ _ _ _ _ _ _ = _
    unfold sp_boTurn_l6s
    rw [if_neg (ndt (by omega)), wr (by omega)]
    simp [colD]
  | j + 1, n + 1, o, hj, hn, ho => by
    have hl := r.len; have h7 := r.h7; have hfl := r.flat; have w7 := r.w7
    have m1 : j * w + w ≤ w * h := by
      have : (j + 1) * w ≤ h * w := Nat.mul_le_mul_right w (by omega)
      rw [Nat.add_mul, Nat.mul_comm h w] at this; omega
    show sp_boTurn_l6s k _ _ _ _ _ _ _ = _
    unfold sp_boTurn_l6s
    have e0 : ((j + 1 : Nat) : Int) - 1 = (j : Int) := by omega
    have e1 : IntKind.i64.wrap ((j : Int) * (gr g w h).1) = ((j * w : Nat) : Int) := by
      show IntKind.i64.wrap ((j : Int) * (w : Int)) = _
      rw [mulI, wr (by omega)]
    have e2 : IntKind.i64.wrap (((j * w : Nat) : Int) + (x : Int)) = ((j * w + x : Nat) : Int) := by rw [wr (by omega)]; simp
    have e3 : rdT (.i .u8) (gr g w h).2.2.1 ((j * w + x : Nat) : Int) = (g.getD j []).getD x 0 := (flat_getD g x j r.row hx (by omega))
    have e4 : (gr g w h).2.2.1.length = w * h := hfl.1
    rw [e0, e1, e2, e3, if_pos (dt (by omega)), inb_eq (by rw [e4]; omega), if_pos (by simp; omega), wr (by omega)]
    refine (boTurn_in k r g3 x2 a b x hx j n (o ++ [(g.getD j []).getD x 0]) (by omega) (by omega) (by simp; omega)).trans ?_
    simp [colD]
theorem boTurn_loop (k : Nat) (hk : 2097152 ≤ k) {g : List (List Int)} {w h : Nat} (r : Rc g w h) (x2 : Int × (Int × (List Int × Unit))) (a b : Int) : ∀ (d n x : Nat) (o : List Int), w = x + d → d < n → o.length + d * h ≤ 60 →
    sp_boTurn_l3 k n (gr g w h) x2 (a, b, o, ()) (x : Int) = some (a, b, o ++ (trnF g h x d).flatten, ())
  | 0, n + 1, x, o, hx, _, _ => by
    show sp_boTurn_l3s k _ _ _ _ _ _ = _
    unfold sp_boTurn_l3s
    have ew : (gr g w h).1 = (w : Int) := rfl
    rw [ew, if_neg (ndt (by omega))]; simp [trnF]
  | d + 1, n + 1, x, o, hx, hn, ho => by
    have h7 := r.h7; have h1 := r.h1
    rw [Nat.add_mul] at ho
    show sp_boTurn_l3s k _ _ _ _ _ _ = _
    unfold sp_boTurn_l3s
    have ew : (gr g w h).1 = (w : Int) := rfl
    have ew2 : (gr g w h).2.1 = (h : Int) := rfl
    rw [ew, if_pos (dt (by omega)), ew2, wr (by omega)]
    refine (boTurn_in k r _ _ a b x (by omega) h k o (Nat.le_refl _) (by omega) (by omega)).trans ?_
    refine (boTurn_loop k hk r _ a b d n (x + 1) (o ++ colD g x h) (by omega) (by omega) (by rw [List.length_append, colD_len]; omega)).trans ?_
    simp [trnF]
theorem boTurn_is (k : Nat) (hk : 2097152 ≤ k) {g : List (List Int)} {w h : Nat} (r : Rc g w h) : sp_boTurn k (gr g w h) = some (gr (trnF g h 0 w) h w) := by
  have w7 := r.w7; have hfl := r.flat
  exact (boTurn_loop k hk r _ (h : Int) (w : Int) w k 0 [] (by omega) (by omega) (by simp; omega)).trans (by simp [gr])
end Ev
/- loop.example/g01207/spec.wyCode -/
namespace Ev
open Go Go.Proofs
/-! spec.wyCode -/
@[reducible] def sp_wyCode_l3_L : List (Nat × Sh) := [(5, (.v I)), (18, (.o 3 I)), (19, (.v I)), (20, (.v I))]
def sp_wyCode_l3s (_k : Nat) (g_l3 : Int → (List Int) → Int → Int → Option Int) (x5 : Int) (x18 : (List Int)) (x19 : Int) (x20 : Int) : Option Int :=
  if (decide (x20 < x19)) = true then
    inb x20 x18.length (
      g_l3 (IntKind.i64.wrap ((IntKind.i64.wrap ((10 : Int) * x5)) + (x18.getD (x20).toNat (0 : Int)))) x18 x19 (IntKind.i64.wrap (x20 + (1 : Int))))
  else
    some x5
def sp_wyCode_l3 (k : Nat)  : Nat → Int → (List Int) → Int → Int → Option Int
  | 0, _, _, _, _ => none
  | n + 1, x5, x18, x19, x20 => sp_wyCode_l3s k (sp_wyCode_l3 k n) x5 x18 x19 x20
def sp_wyCode_s (k : Nat) (c_l3 : Int → (List Int) → Int → Int → Option Int) (x0 : tboGrid.in) (x1 : tState.in) : Option Int :=
  (sp_diFaces k x1.2.2.1).bind fun r1 =>
  c_l3 (IntKind.i64.wrap ((IntKind.i64.wrap (x1.2.1 * x0.1)) + x1.1)) r1 (r1.length : Int) (0 : Int)
def sp_wyCode (k : Nat) (x0 : tboGrid.in) (x1 : tState.in) : Option Int := sp_wyCode_s k (sp_wyCode_l3 k k) x0 x1
noncomputable def sp_wyCode_O (k : Nat) : Orc := { ps := [.v tboGrid, .v tState], rt := (.v I), F := fun x => sp_wyCode k x.1 x.2.1 }
noncomputable def sp_wyCode_E (k : Nat) : Env := { ty := tabTy Tryd_tab, ds := tabDs Tryd_tab, rounds := k, nt := 30, orc := fun g => if Nat.beq g 97 = true then some (sp_diFaces_O k) else (none), lp := fun i => if Nat.beq i 3 = true then some sp_wyCode_l3_L else (none), ct := fun _ => none, plan := fun _ => none }
noncomputable def sp_wyCode_fin (k : Nat) : Kn Int := finish (sp_wyCode_E k) [.v tboGrid, .v tState] (.v I) Tryd.f129.results.toList
noncomputable def sp_wyCode_l3_e (k : Nat)  (n : Nat) (x5 : Int) (x18 : (List Int)) (x19 : Int) (x20 : Int) : Option Int := loopF (sp_wyCode_E k) sp_wyCode_l3_L (ev (sp_wyCode_E k) (sub (bodyOf Tryd.f129) [.r, .r, .l, .r, .c, .c])) (kont (sp_wyCode_E k) (bodyOf Tryd.f129) [.r, .r, .l, .r, .c] [] (sp_wyCode_fin k)) n (x5, x18, x19, x20, ())
theorem sp_wyCode_l3_z (k : Nat)  (x5 : Int) (x18 : (List Int)) (x19 : Int) (x20 : Int) : sp_wyCode_l3_e k 0 x5 x18 x19 x20 = none := by kernel_rfl
theorem sp_wyCode_l3_st (k : Nat)  (n : Nat) (x5 : Int) (x18 : (List Int)) (x19 : Int) (x20 : Int) : sp_wyCode_l3_e k (n + 1) x5 x18 x19 x20 = sp_wyCode_l3s k (sp_wyCode_l3_e k n) x5 x18 x19 x20 := by kernel_rfl
theorem sp_wyCode_l3_ev (k : Nat)  : ∀ (n : Nat) (x5 : Int) (x18 : (List Int)) (x19 : Int) (x20 : Int), sp_wyCode_l3_e k n x5 x18 x19 x20 = sp_wyCode_l3 k n x5 x18 x19 x20
  | 0, x5, x18, x19, x20 => sp_wyCode_l3_z k x5 x18 x19 x20
  | n + 1, x5, x18, x19, x20 => by
    have ih : (sp_wyCode_l3_e k n) = sp_wyCode_l3 k n := by funext y0 y1 y2 y3; exact sp_wyCode_l3_ev k n y0 y1 y2 y3
    rw [sp_wyCode_l3_st, ih]; rfl
theorem sp_wyCode_st (k : Nat) (x0 : tboGrid.in) (x1 : tState.in) : evFun (sp_wyCode_E k) [.v tboGrid, .v tState] (.v I) Tryd.f129 (x0, x1, ()) = sp_wyCode_s k (sp_wyCode_l3_e k k) x0 x1 := by kernel_rfl
theorem sp_wyCode_ev (k : Nat) (x0 : tboGrid.in) (x1 : tState.in) : evFun (sp_wyCode_E k) [.v tboGrid, .v tState] (.v I) Tryd.f129 (x0, x1, ()) = sp_wyCode k x0 x1 := by
  have h0 : (sp_wyCode_l3_e k k) = (sp_wyCode_l3 k k) := by funext y0 y1 y2 y3; exact sp_wyCode_l3_ev k k y0 y1 y2 y3
  rw [sp_wyCode_st, h0]; rfl
theorem sp_wyCode_c (k : Nat) : Contract Tryd.prog 129 (sp_wyCode_O k) :=
  fun_sound (c := bodyOf Tryd.f129) (tab_ok Tryd_tab_ok rfl rfl) (orc_cons (sp_diFaces_c k) orc_nil) Tryd.func129 (by kernel_rfl) rfl (by kernel_rfl) (by decide) rfl rfl (by kernel_rfl) (by kernel_rfl) (by kernel_rfl) (fun x _ h => (sp_wyCode_ev k x.1 x.2.1).trans h)
end Ev
/- loop.example/g01207/spec.wyPlace -/
namespace Ev
open Go Go.Proofs
/-! spec.wyPlace -/
@[reducible] def sp_wyPlace_l2_L : List (Nat × Sh) := [(1, (.v I)), (7, (.v (.sl I))), (8, (.v I)), (9, (.v I))]
def sp_wyPlace_l2s (_k : Nat) (g_l2 : Int → (List Int) → Int → Int → Option Int) (x1 : Int) (x7 : (List Int)) (x8 : Int) (x9 : Int) : Option Int :=
  if (decide (x9 < x8)) = true then
    inb x9 x7.length (
      if (decide ((rdT I x7 x9) = x1)) = true then
        some x9
      else
        g_l2 x1 x7 x8 (IntKind.i64.wrap (x9 + (1 : Int))))
  else
    some (-1 : Int)
def sp_wyPlace_l2 (k : Nat)  : Nat → Int → (List Int) → Int → Int → Option Int
  | 0, _, _, _, _ => none
  | n + 1, x1, x7, x8, x9 => sp_wyPlace_l2s k (sp_wyPlace_l2 k n) x1 x7 x8 x9
def sp_wyPlace_s (_k : Nat) (c_l2 : Int → (List Int) → Int → Int → Option Int) (x0 : (List Int)) (x1 : Int) : Option Int :=
  c_l2 x1 x0 (x0.length : Int) (0 : Int)
def sp_wyPlace (k : Nat) (x0 : (List Int)) (x1 : Int) : Option Int := sp_wyPlace_s k (sp_wyPlace_l2 k k) x0 x1
noncomputable def sp_wyPlace_O (k : Nat) : Orc := { ps := [.v (.sl I), .v I], rt := (.v I), F := fun x => sp_wyPlace k x.1 x.2.1 }
noncomputable def sp_wyPlace_E (k : Nat) : Env := { ty := tabTy Tryd_tab, ds := tabDs Tryd_tab, rounds := k, nt := 19, orc := fun _ => none, lp := fun i => if Nat.beq i 2 = true then some sp_wyPlace_l2_L else (none), ct := fun _ => none, plan := fun _ => none }
noncomputable def sp_wyPlace_fin (k : Nat) : Kn Int := finish (sp_wyPlace_E k) [.v (.sl I), .v I] (.v I) Tryd.f130.results.toList
noncomputable def sp_wyPlace_l2_e (k : Nat)  (n : Nat) (x1 : Int) (x7 : (List Int)) (x8 : Int) (x9 : Int) : Option Int := loopF (sp_wyPlace_E k) sp_wyPlace_l2_L (ev (sp_wyPlace_E k) (sub (bodyOf Tryd.f130) [.r, .l, .r, .c, .c])) (kont (sp_wyPlace_E k) (bodyOf Tryd.f130) [.r, .l, .r, .c] [] (sp_wyPlace_fin k)) n (x1, x7, x8, x9, ())
theorem sp_wyPlace_l2_z (k : Nat)  (x1 : Int) (x7 : (List Int)) (x8 : Int) (x9 : Int) : sp_wyPlace_l2_e k 0 x1 x7 x8 x9 = none := by kernel_rfl
theorem sp_wyPlace_l2_st (k : Nat)  (n : Nat) (x1 : Int) (x7 : (List Int)) (x8 : Int) (x9 : Int) : sp_wyPlace_l2_e k (n + 1) x1 x7 x8 x9 = sp_wyPlace_l2s k (sp_wyPlace_l2_e k n) x1 x7 x8 x9 := by kernel_rfl
theorem sp_wyPlace_l2_ev (k : Nat)  : ∀ (n : Nat) (x1 : Int) (x7 : (List Int)) (x8 : Int) (x9 : Int), sp_wyPlace_l2_e k n x1 x7 x8 x9 = sp_wyPlace_l2 k n x1 x7 x8 x9
  | 0, x1, x7, x8, x9 => sp_wyPlace_l2_z k x1 x7 x8 x9
  | n + 1, x1, x7, x8, x9 => by
    have ih : (sp_wyPlace_l2_e k n) = sp_wyPlace_l2 k n := by funext y0 y1 y2 y3; exact sp_wyPlace_l2_ev k n y0 y1 y2 y3
    rw [sp_wyPlace_l2_st, ih]; rfl
theorem sp_wyPlace_st (k : Nat) (x0 : (List Int)) (x1 : Int) : evFun (sp_wyPlace_E k) [.v (.sl I), .v I] (.v I) Tryd.f130 (x0, x1, ()) = sp_wyPlace_s k (sp_wyPlace_l2_e k k) x0 x1 := by kernel_rfl
theorem sp_wyPlace_ev (k : Nat) (x0 : (List Int)) (x1 : Int) : evFun (sp_wyPlace_E k) [.v (.sl I), .v I] (.v I) Tryd.f130 (x0, x1, ()) = sp_wyPlace k x0 x1 := by
  have h0 : (sp_wyPlace_l2_e k k) = (sp_wyPlace_l2 k k) := by funext y0 y1 y2 y3; exact sp_wyPlace_l2_ev k k y0 y1 y2 y3
  rw [sp_wyPlace_st, h0]; rfl
theorem sp_wyPlace_c (k : Nat) : Contract Tryd.prog 130 (sp_wyPlace_O k) :=
  fun_sound (c := bodyOf Tryd.f130) (tab_ok Tryd_tab_ok rfl rfl) orc_nil Tryd.func130 (by kernel_rfl) rfl (by kernel_rfl) (by decide) rfl rfl (by kernel_rfl) (by kernel_rfl) (by kernel_rfl) (fun x _ h => (sp_wyPlace_ev k x.1 x.2.1).trans h)
end Ev
/- loop.example/g01207/spec.wyAll -/
namespace Ev
open Go Go.Proofs
/-! spec.wyAll -/
@[reducible] def sp_wyAll_j19_L : List (Nat × Sh) := [(2, (.bx 66 (.v tboGrid))), (5, (.o 102 twyNode)), (6, (.o 3 I)), (7, (.v I)), (8, (.v I)), (11, (.v I))]
@[reducible] def sp_wyAll_j17_L : List (Nat × Sh) := [(2, (.bx 66 (.v tboGrid))), (5, (.o 102 twyNode)), (6, (.o 3 I)), (7, (.v I)), (8, (.v I)), (11, (.v I))]
@[reducible] def sp_wyAll_l7_L : List (Nat × Sh) := [(2, (.bx 66 (.v tboGrid))), (5, (.o 102 twyNode)), (6, (.o 3 I)), (7, (.v I)), (8, (.v I))]
@[reducible] def sp_wyAll_l4_L : List (Nat × Sh) := [(2, (.bx 66 (.v tboGrid))), (5, (.o 102 twyNode)), (6, (.o 3 I)), (7, (.v I))]
def sp_wyAll_j19s (_k : Nat) (_g_l4 : tboGrid.in → (List twyNode.in) → (List Int) → Int → Option (List twyNode.in)) (g_l7 : tboGrid.in → (List twyNode.in) → (List Int) → Int → Int → Option (List twyNode.in)) (x2 : tboGrid.in) (x5 : (List twyNode.in)) (x6 : (List Int)) (x7 : Int) (x8 : Int) (x11 : Int) : Option (List twyNode.in) :=
  inb x7 x5.length (
    inb x8 4 (
      g_l7 x2 (x5.set (x7).toNat ((x5.getD (x7).toNat (((0 : Int), (0 : Int), ((0 : Int), (0 : Int), (0 : Int), (0 : Int), (0 : Int), (0 : Int), ()), ()), (0 : Int), (0 : Int), (0 : Int), (0 : Int), (List.replicate 4 (0 : Int)), ())).1, (x5.getD (x7).toNat (((0 : Int), (0 : Int), ((0 : Int), (0 : Int), (0 : Int), (0 : Int), (0 : Int), (0 : Int), ()), ()), (0 : Int), (0 : Int), (0 : Int), (0 : Int), (List.replicate 4 (0 : Int)), ())).2.1, (x5.getD (x7).toNat (((0 : Int), (0 : Int), ((0 : Int), (0 : Int), (0 : Int), (0 : Int), (0 : Int), (0 : Int), ()), ()), (0 : Int), (0 : Int), (0 : Int), (0 : Int), (List.replicate 4 (0 : Int)), ())).2.2.1, (x5.getD (x7).toNat (((0 : Int), (0 : Int), ((0 : Int), (0 : Int), (0 : Int), (0 : Int), (0 : Int), (0 : Int), ()), ()), (0 : Int), (0 : Int), (0 : Int), (0 : Int), (List.replicate 4 (0 : Int)), ())).2.2.2.1, (x5.getD (x7).toNat (((0 : Int), (0 : Int), ((0 : Int), (0 : Int), (0 : Int), (0 : Int), (0 : Int), (0 : Int), ()), ()), (0 : Int), (0 : Int), (0 : Int), (0 : Int), (List.replicate 4 (0 : Int)), ())).2.2.2.2.1, ((x5.getD (x7).toNat (((0 : Int), (0 : Int), ((0 : Int), (0 : Int), (0 : Int), (0 : Int), (0 : Int), (0 : Int), ()), ()), (0 : Int), (0 : Int), (0 : Int), (0 : Int), (List.replicate 4 (0 : Int)), ())).2.2.2.2.2.1.set (x8).toNat x11), (x5.getD (x7).toNat (((0 : Int), (0 : Int), ((0 : Int), (0 : Int), (0 : Int), (0 : Int), (0 : Int), (0 : Int), ()), ()), (0 : Int), (0 : Int), (0 : Int), (0 : Int), (List.replicate 4 (0 : Int)), ())).2.2.2.2.2.2)) x6 x7 (IntKind.i64.wrap (x8 + (1 : Int)))))
def sp_wyAll_j19 (k : Nat) (g_l4 : tboGrid.in → (List twyNode.in) → (List Int) → Int → Option (List twyNode.in)) (g_l7 : tboGrid.in → (List twyNode.in) → (List Int) → Int → Int → Option (List twyNode.in)) : Nat → tboGrid.in → (List twyNode.in) → (List Int) → Int → Int → Int → Option (List twyNode.in)
  | 0, _, _, _, _, _, _ => none
  | _ + 1, x2, x5, x6, x7, x8, x11 => sp_wyAll_j19s k g_l4 g_l7 x2 x5 x6 x7 x8 x11
def sp_wyAll_j17s (_k : Nat) (c_j19 : (tboGrid.in → (List twyNode.in) → (List Int) → Int → Option (List twyNode.in)) → (tboGrid.in → (List twyNode.in) → (List Int) → Int → Int → Option (List twyNode.in)) → tboGrid.in → (List twyNode.in) → (List Int) → Int → Int → Int → Option (List twyNode.in)) (g_l4 : tboGrid.in → (List twyNode.in) → (List Int) → Int → Option (List twyNode.in)) (g_l7 : tboGrid.in → (List twyNode.in) → (List Int) → Int → Int → Option (List twyNode.in)) (x2 : tboGrid.in) (x5 : (List twyNode.in)) (x6 : (List Int)) (x7 : Int) (x8 : Int) (x11 : Int) : Option (List twyNode.in) :=
  inb x11 x5.length (
    inb x7 x5.length (
      if (decide ((x5.getD (x11).toNat (((0 : Int), (0 : Int), ((0 : Int), (0 : Int), (0 : Int), (0 : Int), (0 : Int), (0 : Int), ()), ()), (0 : Int), (0 : Int), (0 : Int), (0 : Int), (List.replicate 4 (0 : Int)), ())).2.1 = (IntKind.i64.wrap ((x5.getD (x7).toNat (((0 : Int), (0 : Int), ((0 : Int), (0 : Int), (0 : Int), (0 : Int), (0 : Int), (0 : Int), ()), ()), (0 : Int), (0 : Int), (0 : Int), (0 : Int), (List.replicate 4 (0 : Int)), ())).2.1 + (1 : Int))))) = true then
        inb x11 x5.length (
          inb x7 x5.length (
            inb x11 x5.length (
              c_j19 g_l4 g_l7 x2 (x5.set (x11).toNat ((x5.getD (x11).toNat (((0 : Int), (0 : Int), ((0 : Int), (0 : Int), (0 : Int), (0 : Int), (0 : Int), (0 : Int), ()), ()), (0 : Int), (0 : Int), (0 : Int), (0 : Int), (List.replicate 4 (0 : Int)), ())).1, (x5.getD (x11).toNat (((0 : Int), (0 : Int), ((0 : Int), (0 : Int), (0 : Int), (0 : Int), (0 : Int), (0 : Int), ()), ()), (0 : Int), (0 : Int), (0 : Int), (0 : Int), (List.replicate 4 (0 : Int)), ())).2.1, (IntKind.i64.wrap ((x5.getD (x11).toNat (((0 : Int), (0 : Int), ((0 : Int), (0 : Int), (0 : Int), (0 : Int), (0 : Int), (0 : Int), ()), ()), (0 : Int), (0 : Int), (0 : Int), (0 : Int), (List.replicate 4 (0 : Int)), ())).2.2.1 + (x5.getD (x7).toNat (((0 : Int), (0 : Int), ((0 : Int), (0 : Int), (0 : Int), (0 : Int), (0 : Int), (0 : Int), ()), ()), (0 : Int), (0 : Int), (0 : Int), (0 : Int), (List.replicate 4 (0 : Int)), ())).2.2.1)), (x5.getD (x11).toNat (((0 : Int), (0 : Int), ((0 : Int), (0 : Int), (0 : Int), (0 : Int), (0 : Int), (0 : Int), ()), ()), (0 : Int), (0 : Int), (0 : Int), (0 : Int), (List.replicate 4 (0 : Int)), ())).2.2.2)) x6 x7 x8 x11)))
      else
        c_j19 g_l4 g_l7 x2 x5 x6 x7 x8 x11))
def sp_wyAll_j17 (k : Nat) (g_l4 : tboGrid.in → (List twyNode.in) → (List Int) → Int → Option (List twyNode.in)) (g_l7 : tboGrid.in → (List twyNode.in) → (List Int) → Int → Int → Option (List twyNode.in)) : Nat → tboGrid.in → (List twyNode.in) → (List Int) → Int → Int → Int → Option (List twyNode.in)
  | 0, _, _, _, _, _, _ => none
  | _ + 1, x2, x5, x6, x7, x8, x11 => sp_wyAll_j17s k (fun g0 g1 => sp_wyAll_j19 k g0 g1 k) g_l4 g_l7 x2 x5 x6 x7 x8 x11
def sp_wyAll_l7s (k : Nat) (c_j17 : (tboGrid.in → (List twyNode.in) → (List Int) → Int → Option (List twyNode.in)) → (tboGrid.in → (List twyNode.in) → (List Int) → Int → Int → Option (List twyNode.in)) → tboGrid.in → (List twyNode.in) → (List Int) → Int → Int → Int → Option (List twyNode.in)) (g_l4 : tboGrid.in → (List twyNode.in) → (List Int) → Int → Option (List twyNode.in)) (g_l7 : tboGrid.in → (List twyNode.in) → (List Int) → Int → Int → Option (List twyNode.in)) (x2 : tboGrid.in) (x5 : (List twyNode.in)) (x6 : (List Int)) (x7 : Int) (x8 : Int) : Option (List twyNode.in) :=
  if (decide (x8 < (4 : Int))) = true then
    inb x7 x5.length (
      inb x8 4 (
        inb x7 (x5.set (x7).toNat ((x5.getD (x7).toNat (((0 : Int), (0 : Int), ((0 : Int), (0 : Int), (0 : Int), (0 : Int), (0 : Int), (0 : Int), ()), ()), (0 : Int), (0 : Int), (0 : Int), (0 : Int), (List.replicate 4 (0 : Int)), ())).1, (x5.getD (x7).toNat (((0 : Int), (0 : Int), ((0 : Int), (0 : Int), (0 : Int), (0 : Int), (0 : Int), (0 : Int), ()), ()), (0 : Int), (0 : Int), (0 : Int), (0 : Int), (List.replicate 4 (0 : Int)), ())).2.1, (x5.getD (x7).toNat (((0 : Int), (0 : Int), ((0 : Int), (0 : Int), (0 : Int), (0 : Int), (0 : Int), (0 : Int), ()), ()), (0 : Int), (0 : Int), (0 : Int), (0 : Int), (List.replicate 4 (0 : Int)), ())).2.2.1, (x5.getD (x7).toNat (((0 : Int), (0 : Int), ((0 : Int), (0 : Int), (0 : Int), (0 : Int), (0 : Int), (0 : Int), ()), ()), (0 : Int), (0 : Int), (0 : Int), (0 : Int), (List.replicate 4 (0 : Int)), ())).2.2.2.1, (x5.getD (x7).toNat (((0 : Int), (0 : Int), ((0 : Int), (0 : Int), (0 : Int), (0 : Int), (0 : Int), (0 : Int), ()), ()), (0 : Int), (0 : Int), (0 : Int), (0 : Int), (List.replicate 4 (0 : Int)), ())).2.2.2.2.1, ((x5.getD (x7).toNat (((0 : Int), (0 : Int), ((0 : Int), (0 : Int), (0 : Int), (0 : Int), (0 : Int), (0 : Int), ()), ()), (0 : Int), (0 : Int), (0 : Int), (0 : Int), (List.replicate 4 (0 : Int)), ())).2.2.2.2.2.1.set (x8).toNat (-1 : Int)), (x5.getD (x7).toNat (((0 : Int), (0 : Int), ((0 : Int), (0 : Int), (0 : Int), (0 : Int), (0 : Int), (0 : Int), ()), ()), (0 : Int), (0 : Int), (0 : Int), (0 : Int), (List.replicate 4 (0 : Int)), ())).2.2.2.2.2.2)).length (
          (sp_boRoll k x2 ((x5.set (x7).toNat ((x5.getD (x7).toNat (((0 : Int), (0 : Int), ((0 : Int), (0 : Int), (0 : Int), (0 : Int), (0 : Int), (0 : Int), ()), ()), (0 : Int), (0 : Int), (0 : Int), (0 : Int), (List.replicate 4 (0 : Int)), ())).1, (x5.getD (x7).toNat (((0 : Int), (0 : Int), ((0 : Int), (0 : Int), (0 : Int), (0 : Int), (0 : Int), (0 : Int), ()), ()), (0 : Int), (0 : Int), (0 : Int), (0 : Int), (List.replicate 4 (0 : Int)), ())).2.1, (x5.getD (x7).toNat (((0 : Int), (0 : Int), ((0 : Int), (0 : Int), (0 : Int), (0 : Int), (0 : Int), (0 : Int), ()), ()), (0 : Int), (0 : Int), (0 : Int), (0 : Int), (List.replicate 4 (0 : Int)), ())).2.2.1, (x5.getD (x7).toNat (((0 : Int), (0 : Int), ((0 : Int), (0 : Int), (0 : Int), (0 : Int), (0 : Int), (0 : Int), ()), ()), (0 : Int), (0 : Int), (0 : Int), (0 : Int), (List.replicate 4 (0 : Int)), ())).2.2.2.1, (x5.getD (x7).toNat (((0 : Int), (0 : Int), ((0 : Int), (0 : Int), (0 : Int), (0 : Int), (0 : Int), (0 : Int), ()), ()), (0 : Int), (0 : Int), (0 : Int), (0 : Int), (List.replicate 4 (0 : Int)), ())).2.2.2.2.1, ((x5.getD (x7).toNat (((0 : Int), (0 : Int), ((0 : Int), (0 : Int), (0 : Int), (0 : Int), (0 : Int), (0 : Int), ()), ()), (0 : Int), (0 : Int), (0 : Int), (0 : Int), (List.replicate 4 (0 : Int)), ())).2.2.2.2.2.1.set (x8).toNat (-1 : Int)), (x5.getD (x7).toNat (((0 : Int), (0 : Int), ((0 : Int), (0 : Int), (0 : Int), (0 : Int), (0 : Int), (0 : Int), ()), ()), (0 : Int), (0 : Int), (0 : Int), (0 : Int), (List.replicate 4 (0 : Int)), ())).2.2.2.2.2.2)).getD (x7).toNat (((0 : Int), (0 : Int), ((0 : Int), (0 : Int), (0 : Int), (0 : Int), (0 : Int), (0 : Int), ()), ()), (0 : Int), (0 : Int), (0 : Int), (0 : Int), (List.replicate 4 (0 : Int)), ())).1 x8).bind fun r2 =>
          if (!r2.2.1) = true then
            g_l7 x2 (x5.set (x7).toNat ((x5.getD (x7).toNat (((0 : Int), (0 : Int), ((0 : Int), (0 : Int), (0 : Int), (0 : Int), (0 : Int), (0 : Int), ()), ()), (0 : Int), (0 : Int), (0 : Int), (0 : Int), (List.replicate 4 (0 : Int)), ())).1, (x5.getD (x7).toNat (((0 : Int), (0 : Int), ((0 : Int), (0 : Int), (0 : Int), (0 : Int), (0 : Int), (0 : Int), ()), ()), (0 : Int), (0 : Int), (0 : Int), (0 : Int), (List.replicate 4 (0 : Int)), ())).2.1, (x5.getD (x7).toNat (((0 : Int), (0 : Int), ((0 : Int), (0 : Int), (0 : Int), (0 : Int), (0 : Int), (0 : Int), ()), ()), (0 : Int), (0 : Int), (0 : Int), (0 : Int), (List.replicate 4 (0 : Int)), ())).2.2.1, (x5.getD (x7).toNat (((0 : Int), (0 : Int), ((0 : Int), (0 : Int), (0 : Int), (0 : Int), (0 : Int), (0 : Int), ()), ()), (0 : Int), (0 : Int), (0 : Int), (0 : Int), (List.replicate 4 (0 : Int)), ())).2.2.2.1, (x5.getD (x7).toNat (((0 : Int), (0 : Int), ((0 : Int), (0 : Int), (0 : Int), (0 : Int), (0 : Int), (0 : Int), ()), ()), (0 : Int), (0 : Int), (0 : Int), (0 : Int), (List.replicate 4 (0 : Int)), ())).2.2.2.2.1, ((x5.getD (x7).toNat (((0 : Int), (0 : Int), ((0 : Int), (0 : Int), (0 : Int), (0 : Int), (0 : Int), (0 : Int), ()), ()), (0 : Int), (0 : Int), (0 : Int), (0 : Int), (List.replicate 4 (0 : Int)), ())).2.2.2.2.2.1.set (x8).toNat (-1 : Int)), (x5.getD (x7).toNat (((0 : Int), (0 : Int), ((0 : Int), (0 : Int), (0 : Int), (0 : Int), (0 : Int), (0 : Int), ()), ()), (0 : Int), (0 : Int), (0 : Int), (0 : Int), (List.replicate 4 (0 : Int)), ())).2.2.2.2.2.2)) x6 x7 (IntKind.i64.wrap (x8 + (1 : Int)))
          else
            (sp_wyCode k x2 r2.1).bind fun r3 =>
            (sp_wyPlace k x6 r3).bind fun r4 =>
            if (decide (r4 < (0 : Int))) = true then
              inb x7 (x5.set (x7).toNat ((x5.getD (x7).toNat (((0 : Int), (0 : Int), ((0 : Int), (0 : Int), (0 : Int), (0 : Int), (0 : Int), (0 : Int), ()), ()), (0 : Int), (0 : Int), (0 : Int), (0 : Int), (List.replicate 4 (0 : Int)), ())).1, (x5.getD (x7).toNat (((0 : Int), (0 : Int), ((0 : Int), (0 : Int), (0 : Int), (0 : Int), (0 : Int), (0 : Int), ()), ()), (0 : Int), (0 : Int), (0 : Int), (0 : Int), (List.replicate 4 (0 : Int)), ())).2.1, (x5.getD (x7).toNat (((0 : Int), (0 : Int), ((0 : Int), (0 : Int), (0 : Int), (0 : Int), (0 : Int), (0 : Int), ()), ()), (0 : Int), (0 : Int), (0 : Int), (0 : Int), (List.replicate 4 (0 : Int)), ())).2.2.1, (x5.getD (x7).toNat (((0 : Int), (0 : Int), ((0 : Int), (0 : Int), (0 : Int), (0 : Int), (0 : Int), (0 : Int), ()), ()), (0 : Int), (0 : Int), (0 : Int), (0 : Int), (List.replicate 4 (0 : Int)), ())).2.2.2.1, (x5.getD (x7).toNat (((0 : Int), (0 : Int), ((0 : Int), (0 : Int), (0 : Int), (0 : Int), (0 : Int), (0 : Int), ()), ()), (0 : Int), (0 : Int), (0 : Int), (0 : Int), (List.replicate 4 (0 : Int)), ())).2.2.2.2.1, ((x5.getD (x7).toNat (((0 : Int), (0 : Int), ((0 : Int), (0 : Int), (0 : Int), (0 : Int), (0 : Int), (0 : Int), ()), ()), (0 : Int), (0 : Int), (0 : Int), (0 : Int), (List.replicate 4 (0 : Int)), ())).2.2.2.2.2.1.set (x8).toNat (-1 : Int)), (x5.getD (x7).toNat (((0 : Int), (0 : Int), ((0 : Int), (0 : Int), (0 : Int), (0 : Int), (0 : Int), (0 : Int), ()), ()), (0 : Int), (0 : Int), (0 : Int), (0 : Int), (List.replicate 4 (0 : Int)), ())).2.2.2.2.2.2)).length (
                if (x5.set (x7).toNat ((x5.getD (x7).toNat (((0 : Int), (0 : Int), ((0 : Int), (0 : Int), (0 : Int), (0 : Int), (0 : Int), (0 : Int), ()), ()), (0 : Int), (0 : Int), (0 : Int), (0 : Int), (List.replicate 4 (0 : Int)), ())).1, (x5.getD (x7).toNat (((0 : Int), (0 : Int), ((0 : Int), (0 : Int), (0 : Int), (0 : Int), (0 : Int), (0 : Int), ()), ()), (0 : Int), (0 : Int), (0 : Int), (0 : Int), (List.replicate 4 (0 : Int)), ())).2.1, (x5.getD (x7).toNat (((0 : Int), (0 : Int), ((0 : Int), (0 : Int), (0 : Int), (0 : Int), (0 : Int), (0 : Int), ()), ()), (0 : Int), (0 : Int), (0 : Int), (0 : Int), (List.replicate 4 (0 : Int)), ())).2.2.1, (x5.getD (x7).toNat (((0 : Int), (0 : Int), ((0 : Int), (0 : Int), (0 : Int), (0 : Int), (0 : Int), (0 : Int), ()), ()), (0 : Int), (0 : Int), (0 : Int), (0 : Int), (List.replicate 4 (0 : Int)), ())).2.2.2.1, (x5.getD (x7).toNat (((0 : Int), (0 : Int), ((0 : Int), (0 : Int), (0 : Int), (0 : Int), (0 : Int), (0 : Int), ()), ()), (0 : Int), (0 : Int), (0 : Int), (0 : Int), (List.replicate 4 (0 : Int)), ())).2.2.2.2.1, ((x5.getD (x7).toNat (((0 : Int), (0 : Int), ((0 : Int), (0 : Int), (0 : Int), (0 : Int), (0 : Int), (0 : Int), ()), ()), (0 : Int), (0 : Int), (0 : Int), (0 : Int), (List.replicate 4 (0 : Int)), ())).2.2.2.2.2.1.set (x8).toNat (-1 : Int)), (x5.getD (x7).toNat (((0 : Int), (0 : Int), ((0 : Int), (0 : Int), (0 : Int), (0 : Int), (0 : Int), (0 : Int), ()), ()), (0 : Int), (0 : Int), (0 : Int), (0 : Int), (List.replicate 4 (0 : Int)), ())).2.2.2.2.2.2)).length + ([(r2.1, (IntKind.i64.wrap (((x5.set (x7).toNat ((x5.getD (x7).toNat (((0 : Int), (0 : Int), ((0 : Int), (0 : Int), (0 : Int), (0 : Int), (0 : Int), (0 : Int), ()), ()), (0 : Int), (0 : Int), (0 : Int), (0 : Int), (List.replicate 4 (0 : Int)), ())).1, (x5.getD (x7).toNat (((0 : Int), (0 : Int), ((0 : Int), (0 : Int), (0 : Int), (0 : Int), (0 : Int), (0 : Int), ()), ()), (0 : Int), (0 : Int), (0 : Int), (0 : Int), (List.replicate 4 (0 : Int)), ())).2.1, (x5.getD (x7).toNat (((0 : Int), (0 : Int), ((0 : Int), (0 : Int), (0 : Int), (0 : Int), (0 : Int), (0 : Int), ()), ()), (0 : Int), (0 : Int), (0 : Int), (0 : Int), (List.replicate 4 (0 : Int)), ())).2.2.1, (x5.getD (x7).toNat (((0 : Int), (0 : Int), ((0 : Int), (0 : Int), (0 : Int), (0 : Int), (0 : Int), (0 : Int), ()), ()), (0 : Int), (0 : Int), (0 : Int), (0 : Int), (List.replicate 4 (0 : Int)), ())).2.2.2.1, (x5.getD (x7).toNat (((0 : Int), (0 : Int), ((0 : Int), (0 : Int), (0 : Int), (0 : Int), (0 : Int), (0 : Int), ()), ()), (0 : Int), (0 : Int), (0 : Int), (0 : Int), (List.replicate 4 (0 : Int)), ())).2.2.2.2.1, ((x5.getD (x7).toNat (((0 : Int), (0 : Int), ((0 : Int), (0 : Int), (0 : Int), (0 : Int), (0 : Int), (0 : Int), ()), ()), (0 : Int), (0 : Int), (0 : Int), (0 : Int), (List.replicate 4 (0 : Int)), ())).2.2.2.2.2.1.set (x8).toNat (-1 : Int)), (x5.getD (x7).toNat (((0 : Int), (0 : Int), ((0 : Int), (0 : Int), (0 : Int), (0 : Int), (0 : Int), (0 : Int), ()), ()), (0 : Int), (0 : Int), (0 : Int), (0 : Int), (List.replicate 4 (0 : Int)), ())).2.2.2.2.2.2)).getD (x7).toNat (((0 : Int), (0 : Int), ((0 : Int), (0 : Int), (0 : Int), (0 : Int), (0 : Int), (0 : Int), ()), ()), (0 : Int), (0 : Int), (0 : Int), (0 : Int), (List.replicate 4 (0 : Int)), ())).2.1 + (1 : Int))), (0 : Int), x7, x8, (List.replicate 4 (0 : Int)), ())] : List twyNode.in).length ≤ 17179869184 then (
                  (sp_wyCode k x2 r2.1).bind fun r5 =>
                  if x6.length + ([r5] : List Int).length ≤ 17179869184 then (
                    c_j17 g_l4 g_l7 x2 ((x5.set (x7).toNat ((x5.getD (x7).toNat (((0 : Int), (0 : Int), ((0 : Int), (0 : Int), (0 : Int), (0 : Int), (0 : Int), (0 : Int), ()), ()), (0 : Int), (0 : Int), (0 : Int), (0 : Int), (List.replicate 4 (0 : Int)), ())).1, (x5.getD (x7).toNat (((0 : Int), (0 : Int), ((0 : Int), (0 : Int), (0 : Int), (0 : Int), (0 : Int), (0 : Int), ()), ()), (0 : Int), (0 : Int), (0 : Int), (0 : Int), (List.replicate 4 (0 : Int)), ())).2.1, (x5.getD (x7).toNat (((0 : Int), (0 : Int), ((0 : Int), (0 : Int), (0 : Int), (0 : Int), (0 : Int), (0 : Int), ()), ()), (0 : Int), (0 : Int), (0 : Int), (0 : Int), (List.replicate 4 (0 : Int)), ())).2.2.1, (x5.getD (x7).toNat (((0 : Int), (0 : Int), ((0 : Int), (0 : Int), (0 : Int), (0 : Int), (0 : Int), (0 : Int), ()), ()), (0 : Int), (0 : Int), (0 : Int), (0 : Int), (List.replicate 4 (0 : Int)), ())).2.2.2.1, (x5.getD (x7).toNat (((0 : Int), (0 : Int), ((0 : Int), (0 : Int), (0 : Int), (0 : Int), (0 : Int), (0 : Int), ()), ()), (0 : Int), (0 : Int), (0 : Int), (0 : Int), (List.replicate 4 (0 : Int)), ())).2.2.2.2.1, ((x5.getD (x7).toNat (((0 : Int), (0 : Int), ((0 : Int), (0 : Int), (0 : Int), (0 : Int), (0 : Int), (0 : Int), ()), ()), (0 : Int), (0 : Int), (0 : Int), (0 : Int), (List.replicate 4 (0 : Int)), ())).2.2.2.2.2.1.set (x8).toNat (-1 : Int)), (x5.getD (x7).toNat (((0 : Int), (0 : Int), ((0 : Int), (0 : Int), (0 : Int), (0 : Int), (0 : Int), (0 : Int), ()), ()), (0 : Int), (0 : Int), (0 : Int), (0 : Int), (List.replicate 4 (0 : Int)), ())).2.2.2.2.2.2)) ++ ([(r2.1, (IntKind.i64.wrap (((x5.set (x7).toNat ((x5.getD (x7).toNat (((0 : Int), (0 : Int), ((0 : Int), (0 : Int), (0 : Int), (0 : Int), (0 : Int), (0 : Int), ()), ()), (0 : Int), (0 : Int), (0 : Int), (0 : Int), (List.replicate 4 (0 : Int)), ())).1, (x5.getD (x7).toNat (((0 : Int), (0 : Int), ((0 : Int), (0 : Int), (0 : Int), (0 : Int), (0 : Int), (0 : Int), ()), ()), (0 : Int), (0 : Int), (0 : Int), (0 : Int), (List.replicate 4 (0 : Int)), ())).2.1, (x5.getD (x7).toNat (((0 : Int), (0 : Int), ((0 : Int), (0 : Int), (0 : Int), (0 : Int), (0 : Int), (0 : Int), ()), ()), (0 : Int), (0 : Int), (0 : Int), (0 : Int), (List.replicate 4 (0 : Int)), ())).2.2.1, (x5.getD (x7).toNat (((0 : Int), (0 : Int), ((0 : Int), (0 : Int), (0 : Int), (0 : Int), (0 : Int), (0 : Int), ()), ()), (0 : Int), (0 : Int), (0 : Int), (0 : Int), (List.replicate 4 (0 : Int)), ())).2.2.2.1, (x5.getD (x7).toNat (((0 : Int), (0 : Int), ((0 : Int), (0 : Int), (0 : Int), (0 : Int), (0 : Int), (0 : Int), ()), ()), (0 : Int), (0 : Int), (0 : Int), (0 : Int), (List.replicate 4 (0 : Int)), ())).2.2.2.2.1, ((x5.getD (x7).toNat (((0 : Int), (0 : Int), ((0 : Int), (0 : Int), (0 : Int), (0 : Int), (0 : Int), (0 : Int), ()), ()), (0 : Int), (0 : Int), (0 : Int), (0 : Int), (List.replicate 4 (0 : Int)), ())).2.2.2.2.2.1.set (x8).toNat (-1 : Int)), (x5.getD (x7).toNat (((0 : Int), (0 : Int), ((0 : Int), (0 : Int), (0 : Int), (0 : Int), (0 : Int), (0 : Int), ()), ()), (0 : Int), (0 : Int), (0 : Int), (0 : Int), (List.replicate 4 (0 : Int)), ())).2.2.2.2.2.2)).getD (x7).toNat (((0 : Int), (0 : Int), ((0 : Int), (0 : Int), (0 : Int), (0 : Int), (0 : Int), (0 : Int), ()), ()), (0 : Int), (0 : Int), (0 : Int), (0 : Int), (List.replicate 4 (0 : Int)), ())).2.1 + (1 : Int))), (0 : Int), x7, x8, (List.replicate 4 (0 : Int)), ())] : List twyNode.in)) (x6 ++ ([r5] : List Int)) x7 x8 ((x5.set (x7).toNat ((x5.getD (x7).toNat (((0 : Int), (0 : Int), ((0 : Int), (0 : Int), (0 : Int), (0 : Int), (0 : Int), (0 : Int), ()), ()), (0 : Int), (0 : Int), (0 : Int), (0 : Int), (List.replicate 4 (0 : Int)), ())).1, (x5.getD (x7).toNat (((0 : Int), (0 : Int), ((0 : Int), (0 : Int), (0 : Int), (0 : Int), (0 : Int), (0 : Int), ()), ()), (0 : Int), (0 : Int), (0 : Int), (0 : Int), (List.replicate 4 (0 : Int)), ())).2.1, (x5.getD (x7).toNat (((0 : Int), (0 : Int), ((0 : Int), (0 : Int), (0 : Int), (0 : Int), (0 : Int), (0 : Int), ()), ()), (0 : Int), (0 : Int), (0 : Int), (0 : Int), (List.replicate 4 (0 : Int)), ())).2.2.1, (x5.getD (x7).toNat (((0 : Int), (0 : Int), ((0 : Int), (0 : Int), (0 : Int), (0 : Int), (0 : Int), (0 : Int), ()), ()), (0 : Int), (0 : Int), (0 : Int), (0 : Int), (List.replicate 4 (0 : Int)), ())).2.2.2.1, (x5.getD (x7).toNat (((0 : Int), (0 : Int), ((0 : Int), (0 : Int), (0 : Int), (0 : Int), (0 : Int), (0 : Int), ()), ()), (0 : Int), (0 : Int), (0 : Int), (0 : Int), (List.replicate 4 (0 : Int)), ())).2.2.2.2.1, ((x5.getD (x7).toNat (((0 : Int), (0 : Int), ((0 : Int), (0 : Int), (0 : Int), (0 : Int), (0 : Int), (0 : Int), ()), ()), (0 : Int), (0 : Int), (0 : Int), (0 : Int), (List.replicate 4 (0 : Int)), ())).2.2.2.2.2.1.set (x8).toNat (-1 : Int)), (x5.getD (x7).toNat (((0 : Int), (0 : Int), ((0 : Int), (0 : Int), (0 : Int), (0 : Int), (0 : Int), (0 : Int), ()), ()), (0 : Int), (0 : Int), (0 : Int), (0 : Int), (List.replicate 4 (0 : Int)), ())).2.2.2.2.2.2)).length : Int)) else none) else none)
            else
              c_j17 g_l4 g_l7 x2 (x5.set (x7).toNat ((x5.getD (x7).toNat (((0 : Int), (0 : Int), ((0 : Int), (0 : Int), (0 : Int), (0 : Int), (0 : Int), (0 : Int), ()), ()), (0 : Int), (0 : Int), (0 : Int), (0 : Int), (List.replicate 4 (0 : Int)), ())).1, (x5.getD (x7).toNat (((0 : Int), (0 : Int), ((0 : Int), (0 : Int), (0 : Int), (0 : Int), (0 : Int), (0 : Int), ()), ()), (0 : Int), (0 : Int), (0 : Int), (0 : Int), (List.replicate 4 (0 : Int)), ())).2.1, (x5.getD (x7).toNat (((0 : Int), (0 : Int), ((0 : Int), (0 : Int), (0 : Int), (0 : Int), (0 : Int), (0 : Int), ()), ()), (0 : Int), (0 : Int), (0 : Int), (0 : Int), (List.replicate 4 (0 : Int)), ())).2.2.1, (x5.getD (x7).toNat (((0 : Int), (0 : Int), ((0 : Int), (0 : Int), (0 : Int), (0 : Int), (0 : Int), (0 : Int), ()), ()), (0 : Int), (0 : Int), (0 : Int), (0 : Int), (List.replicate 4 (0 : Int)), ())).2.2.2.1, (x5.getD (x7).toNat (((0 : Int), (0 : Int), ((0 : Int), (0 : Int), (0 : Int), (0 : Int), (0 : Int), (0 : Int), ()), ()), (0 : Int), (0 : Int), (0 : Int), (0 : Int), (List.replicate 4 (0 : Int)), ())).2.2.2.2.1, ((x5.getD (x7).toNat (((0 : Int), (0 : Int), ((0 : Int), (0 : Int), (0 : Int), (0 : Int), (0 : Int), (0 : Int), ()), ()), (0 : Int), (0 : Int), (0 : Int), (0 : Int), (List.replicate 4 (0 : Int)), ())).2.2.2.2.2.1.set (x8).toNat (-1 : Int)), (x5.getD (x7).toNat (((0 : Int), (0 : Int), ((0 : Int), (0 : Int), (0 : Int), (0 : Int), (0 : Int), (0 : Int), ()), ()), (0 : Int), (0 : Int), (0 : Int), (0 : Int), (List.replicate 4 (0 : Int)), ())).2.2.2.2.2.2)) x6 x7 x8 r4)))
  else
    g_l4 x2 x5 x6 (IntKind.i64.wrap (x7 + (1 : Int)))
def sp_wyAll_l7 (k : Nat) (g_l4 : tboGrid.in → (List twyNode.in) → (List Int) → Int → Option (List twyNode.in)) : Nat → tboGrid.in → (List twyNode.in) → (List Int) → Int → Int → Option (List twyNode.in)
  | 0, _, _, _, _, _ => none
  | n + 1, x2, x5, x6, x7, x8 => sp_wyAll_l7s k (fun g0 g1 => sp_wyAll_j17 k g0 g1 k) g_l4 (sp_wyAll_l7 k g_l4 n) x2 x5 x6 x7 x8
def sp_wyAll_l4s (_k : Nat) (c_l7 : (tboGrid.in → (List twyNode.in) → (List Int) → Int → Option (List twyNode.in)) → tboGrid.in → (List twyNode.in) → (List Int) → Int → Int → Option (List twyNode.in)) (g_l4 : tboGrid.in → (List twyNode.in) → (List Int) → Int → Option (List twyNode.in)) (x2 : tboGrid.in) (x5 : (List twyNode.in)) (x6 : (List Int)) (x7 : Int) : Option (List twyNode.in) :=
  if (decide (x7 < (x5.length : Int))) = true then
    c_l7 g_l4 x2 x5 x6 x7 (0 : Int)
  else
    some x5
def sp_wyAll_l4 (k : Nat)  : Nat → tboGrid.in → (List twyNode.in) → (List Int) → Int → Option (List twyNode.in)
  | 0, _, _, _, _ => none
  | n + 1, x2, x5, x6, x7 => sp_wyAll_l4s k (fun g0 => sp_wyAll_l7 k g0 k) (sp_wyAll_l4 k n) x2 x5 x6 x7
def sp_wyAll_s (k : Nat) (c_l4 : tboGrid.in → (List twyNode.in) → (List Int) → Int → Option (List twyNode.in)) (x0 : tboGrid.in) (x1 : tState.in) : Option (List twyNode.in) :=
  (sp_wyCode k x0 x1).bind fun r1 =>
  c_l4 x0 ([(x1, (0 : Int), (1 : Int), (-1 : Int), (0 : Int), (List.replicate 4 (0 : Int)), ())] : List twyNode.in) ([r1] : List Int) (0 : Int)
def sp_wyAll (k : Nat) (x0 : tboGrid.in) (x1 : tState.in) : Option (List twyNode.in) := sp_wyAll_s k (sp_wyAll_l4 k k) x0 x1
noncomputable def sp_wyAll_O (k : Nat) : Orc := { ps := [.v tboGrid, .v tState], rt := (.o 102 twyNode), F := fun x => sp_wyAll k x.1 x.2.1 }
noncomputable def sp_wyAll_E (k : Nat) : Env := { ty := tabTy Tryd_tab, ds := tabDs Tryd_tab, rounds := k, nt := 109, orc := fun g => if Nat.beq g 125 = true then some (sp_boRoll_O k) else (if Nat.beq g 129 = true then some (sp_wyCode_O k) else (if Nat.beq g 130 = true then some (sp_wyPlace_O k) else (none))), lp := fun i => if Nat.beq i 4 = true then some sp_wyAll_l4_L else (if Nat.beq i 7 = true then some sp_wyAll_l7_L else (none)), ct := fun i => if Nat.beq i 17 = true then some sp_wyAll_j17_L else (if Nat.beq i 19 = true then some sp_wyAll_j19_L else (none)), plan := fun i => if Nat.beq i 18 = true then some [(0, []), (1, []), (2, []), (3, []), (4, []), (5, []), (6, []), (7, []), (8, []), (9, []), (10, []), (11, []), (12, []), (13, [])] else (if Nat.beq i 17 = true then some [(0, []), (1, []), (2, []), (3, []), (4, []), (5, []), (6, []), (7, []), (8, []), (9, []), (10, []), (11, [])] else (if Nat.beq i 15 = true then some [(0, []), (1, []), (2, []), (3, []), (4, []), (5, []), (6, []), (7, []), (8, []), (9, []), (10, []), (11, []), (12, []), (13, [])] else (if Nat.beq i 10 = true then some [(0, []), (1, []), (2, []), (3, []), (4, []), (5, []), (6, []), (7, [11]), (8, []), (9, []), (10, []), (11, []), (12, []), (13, [])] else (none)))) }
noncomputable def sp_wyAll_fin (k : Nat) : Kn (List twyNode.in) := finish (sp_wyAll_E k) [.v tboGrid, .v tState] (.o 102 twyNode) Tryd.f106.results.toList
noncomputable def sp_wyAll_j19_e (k : Nat) (g_l4 : tboGrid.in → (List twyNode.in) → (List Int) → Int → Option (List twyNode.in)) (g_l7 : tboGrid.in → (List twyNode.in) → (List Int) → Int → Int → Option (List twyNode.in)) (n : Nat) (x2 : tboGrid.in) (x5 : (List twyNode.in)) (x6 : (List Int)) (x7 : Int) (x8 : Int) (x11 : Int) : Option (List twyNode.in) := joinF (sp_wyAll_E k) sp_wyAll_j19_L (ev (sp_wyAll_E k) (sub (bodyOf Tryd.f106) [.r, .r, .r, .l, .r, .c, .c, .r, .l, .c, .r, .c, .c, .r, .l, .c, .r, .r, .r, .r, .r, .r])) (kont (sp_wyAll_E k) (bodyOf Tryd.f106) [.r, .r, .r, .l, .r, .c, .c, .r, .l, .c, .r, .c, .c, .r, .l, .c, .r, .r, .r, .r, .r, .r] [⟨sp_wyAll_l4_L, fun d => g_l4 d.1 d.2.1 d.2.2.1 d.2.2.2.1⟩, ⟨sp_wyAll_l7_L, fun d => g_l7 d.1 d.2.1 d.2.2.1 d.2.2.2.1 d.2.2.2.2.1⟩] (sp_wyAll_fin k)) n (x2, x5, x6, x7, x8, x11, ())
theorem sp_wyAll_j19_z (k : Nat) (g_l4 : tboGrid.in → (List twyNode.in) → (List Int) → Int → Option (List twyNode.in)) (g_l7 : tboGrid.in → (List twyNode.in) → (List Int) → Int → Int → Option (List twyNode.in)) (x2 : tboGrid.in) (x5 : (List twyNode.in)) (x6 : (List Int)) (x7 : Int) (x8 : Int) (x11 : Int) : sp_wyAll_j19_e k g_l4 g_l7 0 x2 x5 x6 x7 x8 x11 = none := by kernel_rfl
theorem sp_wyAll_j19_st (k : Nat) (g_l4 : tboGrid.in → (List twyNode.in) → (List Int) → Int → Option (List twyNode.in)) (g_l7 : tboGrid.in → (List twyNode.in) → (List Int) → Int → Int → Option (List twyNode.in)) (n : Nat) (x2 : tboGrid.in) (x5 : (List twyNode.in)) (x6 : (List Int)) (x7 : Int) (x8 : Int) (x11 : Int) : sp_wyAll_j19_e k g_l4 g_l7 (n + 1) x2 x5 x6 x7 x8 x11 = sp_wyAll_j19s k g_l4 g_l7 x2 x5 x6 x7 x8 x11 := by kernel_rfl
theorem sp_wyAll_j19_ev (k : Nat) (g_l4 : tboGrid.in → (List twyNode.in) → (List Int) → Int → Option (List twyNode.in)) (g_l7 : tboGrid.in → (List twyNode.in) → (List Int) → Int → Int → Option (List twyNode.in)) : ∀ (n : Nat) (x2 : tboGrid.in) (x5 : (List twyNode.in)) (x6 : (List Int)) (x7 : Int) (x8 : Int) (x11 : Int), sp_wyAll_j19_e k g_l4 g_l7 n x2 x5 x6 x7 x8 x11 = sp_wyAll_j19 k g_l4 g_l7 n x2 x5 x6 x7 x8 x11
  | 0, x2, x5, x6, x7, x8, x11 => sp_wyAll_j19_z k g_l4 g_l7 x2 x5 x6 x7 x8 x11
  | n + 1, x2, x5, x6, x7, x8, x11 => by
    skip
    rw [sp_wyAll_j19_st]; rfl
noncomputable def sp_wyAll_j17_e (k : Nat) (g_l4 : tboGrid.in → (List twyNode.in) → (List Int) → Int → Option (List twyNode.in)) (g_l7 : tboGrid.in → (List twyNode.in) → (List Int) → Int → Int → Option (List twyNode.in)) (n : Nat) (x2 : tboGrid.in) (x5 : (List twyNode.in)) (x6 : (List Int)) (x7 : Int) (x8 : Int) (x11 : Int) : Option (List twyNode.in) := joinF (sp_wyAll_E k) sp_wyAll_j17_L (ev (sp_wyAll_E k) (sub (bodyOf Tryd.f106) [.r, .r, .r, .l, .r, .c, .c, .r, .l, .c, .r, .c, .c, .r, .l, .c, .r, .r, .r, .r, .r])) (kont (sp_wyAll_E k) (bodyOf Tryd.f106) [.r, .r, .r, .l, .r, .c, .c, .r, .l, .c, .r, .c, .c, .r, .l, .c, .r, .r, .r, .r, .r] [⟨sp_wyAll_l4_L, fun d => g_l4 d.1 d.2.1 d.2.2.1 d.2.2.2.1⟩, ⟨sp_wyAll_l7_L, fun d => g_l7 d.1 d.2.1 d.2.2.1 d.2.2.2.1 d.2.2.2.2.1⟩] (sp_wyAll_fin k)) n (x2, x5, x6, x7, x8, x11, ())
theorem sp_wyAll_j17_z (k : Nat) (g_l4 : tboGrid.in → (List twyNode.in) → (List Int) → Int → Option (List twyNode.in)) (g_l7 : tboGrid.in → (List twyNode.in) → (List Int) → Int → Int → Option (List twyNode.in)) (x2 : tboGrid.in) (x5 : (List twyNode.in)) (x6 : (List Int)) (x7 : Int) (x8 : Int) (x11 : Int) : sp_wyAll_j17_e k g_l4 g_l7 0 x2 x5 x6 x7 x8 x11 = none := by kernel_rfl
theorem sp_wyAll_j17_st (k : Nat) (g_l4 : tboGrid.in → (List twyNode.in) → (List Int) → Int → Option (List twyNode.in)) (g_l7 : tboGrid.in → (List twyNode.in) → (List Int) → Int → Int → Option (List twyNode.in)) (n : Nat) (x2 : tboGrid.in) (x5 : (List twyNode.in)) (x6 : (List Int)) (x7 : Int) (x8 : Int) (x11 : Int) : sp_wyAll_j17_e k g_l4 g_l7 (n + 1) x2 x5 x6 x7 x8 x11 = sp_wyAll_j17s k (fun g0 g1 => sp_wyAll_j19_e k g0 g1 k) g_l4 g_l7 x2 x5 x6 x7 x8 x11 := by kernel_rfl
theorem sp_wyAll_j17_ev (k : Nat) (g_l4 : tboGrid.in → (List twyNode.in) → (List Int) → Int → Option (List twyNode.in)) (g_l7 : tboGrid.in → (List twyNode.in) → (List Int) → Int → Int → Option (List twyNode.in)) : ∀ (n : Nat) (x2 : tboGrid.in) (x5 : (List twyNode.in)) (x6 : (List Int)) (x7 : Int) (x8 : Int) (x11 : Int), sp_wyAll_j17_e k g_l4 g_l7 n x2 x5 x6 x7 x8 x11 = sp_wyAll_j17 k g_l4 g_l7 n x2 x5 x6 x7 x8 x11
  | 0, x2, x5, x6, x7, x8, x11 => sp_wyAll_j17_z k g_l4 g_l7 x2 x5 x6 x7 x8 x11
  | n + 1, x2, x5, x6, x7, x8, x11 => by
    have h0 : (fun g0 g1 => sp_wyAll_j19_e k g0 g1 k) = (fun g0 g1 => sp_wyAll_j19 k g0 g1 k) := by funext g0 g1 y0 y1 y2 y3 y4 y5; exact sp_wyAll_j19_ev k g0 g1 k y0 y1 y2 y3 y4 y5
    rw [sp_wyAll_j17_st, h0]; rfl
noncomputable def sp_wyAll_l7_e (k : Nat) (g_l4 : tboGrid.in → (List twyNode.in) → (List Int) → Int → Option (List twyNode.in)) (n : Nat) (x2 : tboGrid.in) (x5 : (List twyNode.in)) (x6 : (List Int)) (x7 : Int) (x8 : Int) : Option (List twyNode.in) := loopF (sp_wyAll_E k) sp_wyAll_l7_L (ev (sp_wyAll_E k) (sub (bodyOf Tryd.f106) [.r, .r, .r, .l, .r, .c, .c, .r, .l, .c, .r, .c, .c])) (kont (sp_wyAll_E k) (bodyOf Tryd.f106) [.r, .r, .r, .l, .r, .c, .c, .r, .l, .c, .r, .c] [⟨sp_wyAll_l4_L, fun d => g_l4 d.1 d.2.1 d.2.2.1 d.2.2.2.1⟩] (sp_wyAll_fin k)) n (x2, x5, x6, x7, x8, ())
theorem sp_wyAll_l7_z (k : Nat) (g_l4 : tboGrid.in → (List twyNode.in) → (List Int) → Int → Option (List twyNode.in)) (x2 : tboGrid.in) (x5 : (List twyNode.in)) (x6 : (List Int)) (x7 : Int) (x8 : Int) : sp_wyAll_l7_e k g_l4 0 x2 x5 x6 x7 x8 = none := by kernel_rfl
theorem sp_wyAll_l7_st (k : Nat) (g_l4 : tboGrid.in → (List twyNode.in) → (List Int) → Int → Option (List twyNode.in)) (n : Nat) (x2 : tboGrid.in) (x5 : (List twyNode.in)) (x6 : (List Int)) (x7 : Int) (x8 : Int) : sp_wyAll_l7_e k g_l4 (n + 1) x2 x5 x6 x7 x8 = sp_wyAll_l7s k (fun g0 g1 => sp_wyAll_j17_e k g0 g1 k) g_l4 (sp_wyAll_l7_e k g_l4 n) x2 x5 x6 x7 x8 := by kernel_rfl
theorem sp_wyAll_l7_ev (k : Nat) (g_l4 : tboGrid.in → (List twyNode.in) → (List Int) → Int → Option (List twyNode.in)) : ∀ (n : Nat) (x2 : tboGrid.in) (x5 : (List twyNode.in)) (x6 : (List Int)) (x7 : Int) (x8 : Int), sp_wyAll_l7_e k g_l4 n x2 x5 x6 x7 x8 = sp_wyAll_l7 k g_l4 n x2 x5 x6 x7 x8
  | 0, x2, x5, x6, x7, x8 => sp_wyAll_l7_z k g_l4 x2 x5 x6 x7 x8
  | n + 1, x2, x5, x6, x7, x8 => by
    have h0 : (fun g0 g1 => sp_wyAll_j17_e k g0 g1 k) = (fun g0 g1 => sp_wyAll_j17 k g0 g1 k) := by funext g0 g1 y0 y1 y2 y3 y4 y5; exact sp_wyAll_j17_ev k g0 g1 k y0 y1 y2 y3 y4 y5
    have ih : (sp_wyAll_l7_e k g_l4 n) = sp_wyAll_l7 k g_l4 n := by funext y0 y1 y2 y3 y4; exact sp_wyAll_l7_ev k g_l4 n y0 y1 y2 y3 y4
    rw [sp_wyAll_l7_st, h0, ih]; rfl
noncomputable def sp_wyAll_l4_e (k : Nat)  (n : Nat) (x2 : tboGrid.in) (x5 : (List twyNode.in)) (x6 : (List Int)) (x7 : Int) : Option (List twyNode.in) := loopF (sp_wyAll_E k) sp_wyAll_l4_L (ev (sp_wyAll_E k) (sub (bodyOf Tryd.f106) [.r, .r, .r, .l, .r, .c, .c])) (kont (sp_wyAll_E k) (bodyOf Tryd.f106) [.r, .r, .r, .l, .r, .c] [] (sp_wyAll_fin k)) n (x2, x5, x6, x7, ())
theorem sp_wyAll_l4_z (k : Nat)  (x2 : tboGrid.in) (x5 : (List twyNode.in)) (x6 : (List Int)) (x7 : Int) : sp_wyAll_l4_e k 0 x2 x5 x6 x7 = none := by kernel_rfl
theorem sp_wyAll_l4_st (k : Nat)  (n : Nat) (x2 : tboGrid.in) (x5 : (List twyNode.in)) (x6 : (List Int)) (x7 : Int) : sp_wyAll_l4_e k (n + 1) x2 x5 x6 x7 = sp_wyAll_l4s k (fun g0 => sp_wyAll_l7_e k g0 k) (sp_wyAll_l4_e k n) x2 x5 x6 x7 := by kernel_rfl
theorem sp_wyAll_l4_ev (k : Nat)  : ∀ (n : Nat) (x2 : tboGrid.in) (x5 : (List twyNode.in)) (x6 : (List Int)) (x7 : Int), sp_wyAll_l4_e k n x2 x5 x6 x7 = sp_wyAll_l4 k n x2 x5 x6 x7
  | 0, x2, x5, x6, x7 => sp_wyAll_l4_z k x2 x5 x6 x7
  | n + 1, x2, x5, x6, x7 => by
    have h0 : (fun g0 => sp_wyAll_l7_e k g0 k) = (fun g0 => sp_wyAll_l7 k g0 k) := by funext g0 y0 y1 y2 y3 y4; exact sp_wyAll_l7_ev k g0 k y0 y1 y2 y3 y4
    have ih : (sp_wyAll_l4_e k n) = sp_wyAll_l4 k n := by funext y0 y1 y2 y3; exact sp_wyAll_l4_ev k n y0 y1 y2 y3
    rw [sp_wyAll_l4_st, h0, ih]; rfl
theorem sp_wyAll_st (k : Nat) (x0 : tboGrid.in) (x1 : tState.in) : evFun (sp_wyAll_E k) [.v tboGrid, .v tState] (.o 102 twyNode) Tryd.f106 (x0, x1, ()) = sp_wyAll_s k (sp_wyAll_l4_e k k) x0 x1 := by kernel_rfl
theorem sp_wyAll_ev (k : Nat) (x0 : tboGrid.in) (x1 : tState.in) : evFun (sp_wyAll_E k) [.v tboGrid, .v tState] (.o 102 twyNode) Tryd.f106 (x0, x1, ()) = sp_wyAll k x0 x1 := by
  have h0 : (sp_wyAll_l4_e k k) = (sp_wyAll_l4 k k) := by funext y0 y1 y2 y3; exact sp_wyAll_l4_ev k k y0 y1 y2 y3
  rw [sp_wyAll_st, h0]; rfl
theorem sp_wyAll_c (k : Nat) : Contract Tryd.prog 106 (sp_wyAll_O k) :=
  fun_sound (c := bodyOf Tryd.f106) (tab_ok Tryd_tab_ok rfl rfl) (orc_cons (sp_boRoll_c k) (orc_cons (sp_wyCode_c k) (orc_cons (sp_wyPlace_c k) orc_nil))) Tryd.func106 (by kernel_rfl) rfl (by kernel_rfl) (by decide) rfl rfl (by kernel_rfl) (by kernel_rfl) (by kernel_rfl) (fun x _ h => (sp_wyAll_ev k x.1 x.2.1).trans h)
end Ev
