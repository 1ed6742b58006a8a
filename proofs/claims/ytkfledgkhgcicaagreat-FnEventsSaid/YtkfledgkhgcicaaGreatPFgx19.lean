import Derived.Test.YtkfledgkhgcicaaGreatPFgx0
import Derived.Test.YtkfledgkhgcicaaGreatPFgx2
import Derived.Test.YtkfledgkhgcicaaGreatPFgx6
import Derived.Test.YtkfledgkhgcicaaGreatPFgx9
import Derived.Test.YtkfledgkhgcicaaGreatPFgx10
import Derived.Test.YtkfledgkhgcicaaGreatPFgx11
import Derived.Test.YtkfledgkhgcicaaGreatPFgx12
import Derived.Test.YtkfledgkhgcicaaGreatPFgx13
import Derived.Test.YtkfledgkhgcicaaGreatPFgx14
import Derived.Test.YtkfledgkhgcicaaGreatPFgx16
import Derived.Test.YtkfledgkhgcicaaGreatPFgx17
namespace Go.Proofs.YtkfledgkhgcicaaGreat.PFg
open Go.RowKit Go.Proofs.YtkfledgkhgcicaaGreatW.PrintWords Go.Proofs.YtkfledgkhgcicaaGreatW.PrintLast Go.Proofs.YtkfledgkhgcicaaGreatW.PrintMore
attribute [local go_sem] P8 P5 E5 E8 M4 M0 P6 P7   -- for this text's walks alone
set_option linter.unusedVariables false
set_option linter.unusedSimpArgs false
mutual
noncomputable def laws_FnEvents.j0 : Nat → List Int → List (S48) → List (List Int) → Bool → List (List Int) → Int → Int → Int → Bool → Option (Bool)
  | 0, _, _, _, _, _, _, _, _, _ => none
  | k + 1, x1, x5, x6, x7, x8, x13, x14, x18, x146 => if x146 = true then (some false) else (if x7 = true then ((D8.f k x6).bind fun bt622 => ((U3.f k x5).bind fun bt626 => ((U5.f k x5).bind fun bt628 => (if bt622.2 = true then ((Y6.f k bt622.1 x5).bind fun t630 => (if t630 = true then (if bt626.2 = true then (if bt628.2 = true then (if bt626.1 = bt628.1 then (if (x8.length : Int) = (wrap64 (2 * (x5.length : Int))) then (laws_FnEvents.j1 k x1 x8 x13 x14 (decide (x18 > bt628.1))) else (laws_FnEvents.j1 k x1 x8 x13 x14 true)) else (laws_FnEvents.j1 k x1 x8 x13 x14 true)) else (laws_FnEvents.j1 k x1 x8 x13 x14 true)) else (laws_FnEvents.j1 k x1 x8 x13 x14 true)) else (laws_FnEvents.j1 k x1 x8 x13 x14 true))) else (laws_FnEvents.j1 k x1 x8 x13 x14 true))))) else (laws_FnEvents.j5 k x1))
noncomputable def laws_FnEvents.j5 : Nat → List Int → Option (Bool)
  | 0, _ => none
  | k + 1, x1 => (J2.f k x1).bind fun t646 => ((D8.f k t646).bind fun bt649 => ((d9.f k t646).bind fun bt653 => (if (bt649.2 != bt653.2) = true then (laws_FnEvents.j6 k t646 bt649.1 bt649.2 true) else ((Y6.f k bt649.1 bt653.1).bind fun t657 => (laws_FnEvents.j6 k t646 bt649.1 bt649.2 (!t657))))))
noncomputable def laws_FnEvents.j6 : Nat → List (List Int) → List (S48) → Bool → Bool → Option (Bool)
  | 0, _, _, _, _ => none
  | k + 1, x33, x34, x35, x312 => if x312 = true then (some false) else (if x35 = true then ((R9.f k x34).bind fun bt658 => (if bt658.2 = true then ((Z7.f k bt658.1 x33).bind fun t662 => (some t662)) else (some false))) else (some true))
noncomputable def laws_FnEvents.j1 : Nat → List Int → List (List Int) → Int → Int → Bool → Option (Bool)
  | 0, _, _, _, _, _ => none
  | k + 1, x1, x8, x13, x14, x196 => if x196 = true then (some false) else (laws_FnEvents.l0 k x1 x8 x13 x14 0 x8 (x8.length : Int) 0)
noncomputable def laws_FnEvents.l0 : Nat → List Int → List (List Int) → Int → Int → Int → List (List Int) → Int → Int → Option (Bool)
  | 0, _, _, _, _, _, _, _, _ => none
  | k + 1, x1, x8, x13, x14, x30, x197, x198, x199 => if x199 < x198 then (if 0 ≤ x199 then (if x199 < (x197.length : Int) then (if x199 > 0 then (if 0 ≤ (wrap64 (x199 - 1)) then (if (wrap64 (x199 - 1)) < (x8.length : Int) then (if 0 < ((y8 x8 (wrap64 (x199 - 1))).length : Int) then (if 0 < ((y8 x197 x199).length : Int) then (if (rd (y8 x8 (wrap64 (x199 - 1))) 0) > (rd (y8 x197 x199) 0) then (laws_FnEvents.j3 k x1 x8 x13 x14 x30 x199 x197 x198 x199 true) else (if (rd (y8 x8 (wrap64 (x199 - 1))) 0) = (rd (y8 x197 x199) 0) then (if 1 < ((y8 x8 (wrap64 (x199 - 1))).length : Int) then (if 1 < ((y8 x197 x199).length : Int) then (laws_FnEvents.j3 k x1 x8 x13 x14 x30 x199 x197 x198 x199 (decide ((rd (y8 x8 (wrap64 (x199 - 1))) 1) ≥ (rd (y8 x197 x199) 1)))) else (none)) else (none)) else (laws_FnEvents.j3 k x1 x8 x13 x14 x30 x199 x197 x198 x199 false))) else (none)) else (none)) else (none)) else (none)) else (laws_FnEvents.j3 k x1 x8 x13 x14 x30 x199 x197 x198 x199 false)) else (none)) else (none)) else (if x30 = 0 then (laws_FnEvents.j5 k x1) else (some false))
noncomputable def laws_FnEvents.j3 : Nat → List Int → List (List Int) → Int → Int → Int → Int → List (List Int) → Int → Int → Bool → Option (Bool)
  | 0, _, _, _, _, _, _, _, _, _, _ => none
  | k + 1, x1, x8, x13, x14, x30, x31, x197, x198, x199, x244 => if x244 = true then (some false) else (if 2 < ((y8 x197 x199).length : Int) then (if (wrap64 (x31 + 1)) = (x8.length : Int) then (laws_FnEvents.j4 k x1 x8 x13 x14 (wrap64 (x30 + (wrap64 ((wrap64 (2 * (rd (y8 x197 x199) 2))) - 1)))) x197 x198 x199 true) else (if 0 ≤ (wrap64 (x31 + 1)) then (if (wrap64 (x31 + 1)) < (x8.length : Int) then (if 0 < ((y8 x8 (wrap64 (x31 + 1))).length : Int) then (if 0 < ((y8 x197 x199).length : Int) then (laws_FnEvents.j4 k x1 x8 x13 x14 (wrap64 (x30 + (wrap64 ((wrap64 (2 * (rd (y8 x197 x199) 2))) - 1)))) x197 x198 x199 (decide ((rd (y8 x8 (wrap64 (x31 + 1))) 0) > (rd (y8 x197 x199) 0)))) else (none)) else (none)) else (none)) else (none))) else (none))
noncomputable def laws_FnEvents.j4 : Nat → List Int → List (List Int) → Int → Int → Int → List (List Int) → Int → Int → Bool → Option (Bool)
  | 0, _, _, _, _, _, _, _, _, _ => none
  | k + 1, x1, x8, x13, x14, x30, x197, x198, x199, x269 => if x269 = true then (if x30 > x14 then (some false) else (if x30 = x14 then (if x14 > 0 then (if 0 < ((y8 x197 x199).length : Int) then (if (rd (y8 x197 x199) 0) < x13 then (some false) else (laws_FnEvents.l0 k x1 x8 x13 x14 x30 x197 x198 (wrap64 (x199 + 1)))) else (none)) else (laws_FnEvents.l0 k x1 x8 x13 x14 x30 x197 x198 (wrap64 (x199 + 1)))) else (laws_FnEvents.l0 k x1 x8 x13 x14 x30 x197 x198 (wrap64 (x199 + 1))))) else (laws_FnEvents.l0 k x1 x8 x13 x14 x30 x197 x198 (wrap64 (x199 + 1)))
end
noncomputable def laws_FnEvents.f (k : Nat) (l0 : List Int) (l1 : List Int) : Option (Bool) := (q0w.f l0 l1).bind fun t580 => (if t580 = true then (some true) else ((R6.f k l0).bind fun t581 => ((R9.f k t581).bind fun bt584 => ((I9.f k t581).bind fun bt588 => ((Y1.f k t581).bind fun bt592 => ((Y2.f k t581).bind fun bt595 => ((X4.f k t581).bind fun bt598 => ((X7.f k t581).bind fun bt600 => ((I1.f k t581).bind fun bt602 => ((F9.f k t581).bind fun bt611 => (if (bt584.2 != bt588.2) = true then (laws_FnEvents.j0 k l1 t581 bt584.1 bt584.2 bt588.1 bt595.1 bt595.2.1 bt600.1 true) else ((Z7.f k bt584.1 bt588.1).bind fun t620 => (if t620 = true then (if (bt592.2.2 != bt595.2.2) = true then (laws_FnEvents.j0 k l1 t581 bt584.1 bt584.2 bt588.1 bt595.1 bt595.2.1 bt600.1 true) else (if bt592.1 = bt595.1 then (if bt592.2.1 = bt595.2.1 then (if (bt598.2 != bt600.2) = true then (laws_FnEvents.j0 k l1 t581 bt584.1 bt584.2 bt588.1 bt595.1 bt595.2.1 bt600.1 true) else (if bt598.1 = bt600.1 then (if (bt602.2.2.2 != bt611.2.2.2) = true then (laws_FnEvents.j0 k l1 t581 bt584.1 bt584.2 bt588.1 bt595.1 bt595.2.1 bt600.1 true) else ((F8.f k bt602.1 bt602.2.1 bt602.2.2.1 bt611.1 bt611.2.1 bt611.2.2.1).bind fun t621 => (if t621 = true then (if (bt592.2.2 != bt584.2) = true then (laws_FnEvents.j0 k l1 t581 bt584.1 bt584.2 bt588.1 bt595.1 bt595.2.1 bt600.1 true) else (if (bt598.2 != bt584.2) = true then (laws_FnEvents.j0 k l1 t581 bt584.1 bt584.2 bt588.1 bt595.1 bt595.2.1 bt600.1 true) else (laws_FnEvents.j0 k l1 t581 bt584.1 bt584.2 bt588.1 bt595.1 bt595.2.1 bt600.1 (bt602.2.2.2 != bt584.2)))) else (laws_FnEvents.j0 k l1 t581 bt584.1 bt584.2 bt588.1 bt595.1 bt595.2.1 bt600.1 true)))) else (laws_FnEvents.j0 k l1 t581 bt584.1 bt584.2 bt588.1 bt595.1 bt595.2.1 bt600.1 true))) else (laws_FnEvents.j0 k l1 t581 bt584.1 bt584.2 bt588.1 bt595.1 bt595.2.1 bt600.1 true)) else (laws_FnEvents.j0 k l1 t581 bt584.1 bt584.2 bt588.1 bt595.1 bt595.2.1 bt600.1 true))) else (laws_FnEvents.j0 k l1 t581 bt584.1 bt584.2 bt588.1 bt595.1 bt595.2.1 bt600.1 true))))))))))))))
theorem laws_FnEvents.gq {P : Program} {i : Nat} {ops : Array Oper} {Q : Exit → Act → World → Prop} {a : Act} {W : World} (h : (Code.region i ops true).wp P Q a W) : (Code.region i ops true).wp P Q a W := h
end Go.Proofs.YtkfledgkhgcicaaGreat.PFg
