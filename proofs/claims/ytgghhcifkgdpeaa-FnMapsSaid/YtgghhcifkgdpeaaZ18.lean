-- Written by this session's wip/mp/mp.py out of the translation. Lean checks it.
import Derived.Test.YtgghhcifkgdpeaaZ0
import Derived.Test.YtgghhcifkgdpeaaZ3
import Derived.Test.YtgghhcifkgdpeaaZ4
import Derived.Test.YtgghhcifkgdpeaaZ5
import Derived.Test.YtgghhcifkgdpeaaZ10
import Derived.Test.YtgghhcifkgdpeaaZ11
import Derived.Test.YtgghhcifkgdpeaaZ14
import Derived.Test.YtgghhcifkgdpeaaZ15
import Derived.Test.YtgghhcifkgdpeaaZ16
import Derived.Test.YtgghhcifkgdpeaaZ17
namespace Go.Proofs.Ytgghhcifkgdpeaa.Z
open Go.RowKit Go.Proofs.YtgghhcifkgdpeaaW.PrintWords Go.Proofs.YtgghhcifkgdpeaaW.PrintLast Go.Proofs.YtgghhcifkgdpeaaW.PrintMore
attribute [local go_sem] max2_int min2_int max_two min_two max_three min_three max_four min_four   -- for this text's walks alone
set_option linter.unusedVariables false
set_option linter.unusedSimpArgs false

abbrev qt : Bool := true
abbrev qf : Bool := false
theorem qA {α : Type} (l : List α) (i : Nat) (a : α) : l.toArray.setIfInBounds i a = (l.set i a).toArray := List.setIfInBounds_toArray l i a
theorem qZ {α : Type} (l : List α) (a b : α) : (a :: l).set 0 b = b :: l := rfl
theorem qS {α : Type} (l : List α) (i : Nat) (a b : α) : (a :: l).set (i + 1) b = a :: l.set i b := rfl
abbrev q0 : Array Bool := #[qf,qf,qf,qf,qf,qf,qf,qf,qf,qf,qf,qf,qf,qf,qf,qf,qf,qf,qf,qf,qf,qf,qf,qf,qf,qf,qf,qf,qf,qf,qf,qf,qf,qf,qf,qf,qf,qf,qf,qf,qf,qf,qf,qf,qf,qf,qf,qf,qf,qf,qf,qf]
abbrev q1 : Array Bool := #[qt,qf,qf,qf,qf,qf,qf,qf,qf,qf,qf,qf,qf,qf,qf,qf,qf,qf,qf,qf,qf,qf,qf,qf,qf,qf,qf,qf,qf,qf,qf,qf,qf,qf,qf,qf,qf,qf,qf,qf,qf,qf,qf,qf,qf,qf,qf,qf,qf,qf,qf,qf]
abbrev q2 : Array Bool := #[qt,qt,qf,qf,qf,qf,qf,qf,qf,qf,qf,qf,qf,qf,qf,qf,qf,qf,qf,qf,qf,qf,qf,qf,qf,qf,qf,qf,qf,qf,qf,qf,qf,qf,qf,qf,qf,qf,qf,qf,qf,qf,qf,qf,qf,qf,qf,qf,qf,qf,qf,qf]
abbrev q3 : Array Bool := #[qt,qt,qt,qf,qf,qf,qf,qf,qf,qf,qf,qf,qf,qf,qf,qf,qf,qf,qf,qf,qf,qf,qf,qf,qf,qf,qf,qf,qf,qf,qf,qf,qf,qf,qf,qf,qf,qf,qf,qf,qf,qf,qf,qf,qf,qf,qf,qf,qf,qf,qf,qf]
abbrev q4 : Array Bool := #[qt,qt,qt,qt,qf,qf,qf,qf,qf,qf,qf,qf,qf,qf,qf,qf,qf,qf,qf,qf,qf,qf,qf,qf,qf,qf,qf,qf,qf,qf,qf,qf,qf,qf,qf,qf,qf,qf,qf,qf,qf,qf,qf,qf,qf,qf,qf,qf,qf,qf,qf,qf]
abbrev q5 : Array Bool := #[qt,qt,qt,qt,qt,qf,qf,qf,qf,qf,qf,qf,qf,qf,qf,qf,qf,qf,qf,qf,qf,qf,qf,qf,qf,qf,qf,qf,qf,qf,qf,qf,qf,qf,qf,qf,qf,qf,qf,qf,qf,qf,qf,qf,qf,qf,qf,qf,qf,qf,qf,qf]
abbrev q6 : Array Bool := #[qt,qt,qt,qt,qt,qt,qf,qf,qf,qf,qf,qf,qf,qf,qf,qf,qf,qf,qf,qf,qf,qf,qf,qf,qf,qf,qf,qf,qf,qf,qf,qf,qf,qf,qf,qf,qf,qf,qf,qf,qf,qf,qf,qf,qf,qf,qf,qf,qf,qf,qf,qf]
abbrev q7 : Array Bool := #[qt,qt,qt,qt,qt,qt,qt,qf,qf,qf,qf,qf,qf,qf,qf,qf,qf,qf,qf,qf,qf,qf,qf,qf,qf,qf,qf,qf,qf,qf,qf,qf,qf,qf,qf,qf,qf,qf,qf,qf,qf,qf,qf,qf,qf,qf,qf,qf,qf,qf,qf,qf]
abbrev q8 : Array Bool := #[qt,qt,qt,qt,qt,qt,qt,qt,qf,qf,qf,qf,qf,qf,qf,qf,qf,qf,qf,qf,qf,qf,qf,qf,qf,qf,qf,qf,qf,qf,qf,qf,qf,qf,qf,qf,qf,qf,qf,qf,qf,qf,qf,qf,qf,qf,qf,qf,qf,qf,qf,qf]
abbrev q9 : Array Bool := #[qt,qt,qt,qt,qt,qt,qt,qt,qt,qf,qf,qf,qf,qf,qf,qf,qf,qf,qf,qf,qf,qf,qf,qf,qf,qf,qf,qf,qf,qf,qf,qf,qf,qf,qf,qf,qf,qf,qf,qf,qf,qf,qf,qf,qf,qf,qf,qf,qf,qf,qf,qf]
abbrev q10 : Array Bool := #[qt,qt,qt,qt,qt,qt,qt,qt,qt,qt,qf,qf,qf,qf,qf,qf,qf,qf,qf,qf,qf,qf,qf,qf,qf,qf,qf,qf,qf,qf,qf,qf,qf,qf,qf,qf,qf,qf,qf,qf,qf,qf,qf,qf,qf,qf,qf,qf,qf,qf,qf,qf]
abbrev q11 : Array Bool := #[qt,qt,qt,qt,qt,qt,qt,qt,qt,qt,qt,qf,qf,qf,qf,qf,qf,qf,qf,qf,qf,qf,qf,qf,qf,qf,qf,qf,qf,qf,qf,qf,qf,qf,qf,qf,qf,qf,qf,qf,qf,qf,qf,qf,qf,qf,qf,qf,qf,qf,qf,qf]
abbrev q12 : Array Bool := #[qt,qt,qt,qt,qt,qt,qt,qt,qt,qt,qt,qt,qf,qf,qf,qf,qf,qf,qf,qf,qf,qf,qf,qf,qf,qf,qf,qf,qf,qf,qf,qf,qf,qf,qf,qf,qf,qf,qf,qf,qf,qf,qf,qf,qf,qf,qf,qf,qf,qf,qf,qf]
abbrev q13 : Array Bool := #[qt,qt,qt,qt,qt,qt,qt,qt,qt,qt,qt,qt,qt,qf,qf,qf,qf,qf,qf,qf,qf,qf,qf,qf,qf,qf,qf,qf,qf,qf,qf,qf,qf,qf,qf,qf,qf,qf,qf,qf,qf,qf,qf,qf,qf,qf,qf,qf,qf,qf,qf,qf]
abbrev q14 : Array Bool := #[qt,qt,qt,qt,qt,qt,qt,qt,qt,qt,qt,qt,qt,qt,qf,qf,qf,qf,qf,qf,qf,qf,qf,qf,qf,qf,qf,qf,qf,qf,qf,qf,qf,qf,qf,qf,qf,qf,qf,qf,qf,qf,qf,qf,qf,qf,qf,qf,qf,qf,qf,qf]
abbrev q15 : Array Bool := #[qt,qt,qt,qt,qt,qt,qt,qt,qt,qt,qt,qt,qt,qt,qt,qf,qf,qf,qf,qf,qf,qf,qf,qf,qf,qf,qf,qf,qf,qf,qf,qf,qf,qf,qf,qf,qf,qf,qf,qf,qf,qf,qf,qf,qf,qf,qf,qf,qf,qf,qf,qf]
abbrev q16 : Array Bool := #[qt,qt,qt,qt,qt,qt,qt,qt,qt,qt,qt,qt,qt,qt,qt,qt,qf,qf,qf,qf,qf,qf,qf,qf,qf,qf,qf,qf,qf,qf,qf,qf,qf,qf,qf,qf,qf,qf,qf,qf,qf,qf,qf,qf,qf,qf,qf,qf,qf,qf,qf,qf]
abbrev q17 : Array Bool := #[qt,qt,qt,qt,qt,qt,qt,qt,qt,qt,qt,qt,qt,qt,qt,qt,qt,qf,qf,qf,qf,qf,qf,qf,qf,qf,qf,qf,qf,qf,qf,qf,qf,qf,qf,qf,qf,qf,qf,qf,qf,qf,qf,qf,qf,qf,qf,qf,qf,qf,qf,qf]
abbrev q18 : Array Bool := #[qt,qt,qt,qt,qt,qt,qt,qt,qt,qt,qt,qt,qt,qt,qt,qt,qt,qt,qf,qf,qf,qf,qf,qf,qf,qf,qf,qf,qf,qf,qf,qf,qf,qf,qf,qf,qf,qf,qf,qf,qf,qf,qf,qf,qf,qf,qf,qf,qf,qf,qf,qf]
abbrev q19 : Array Bool := #[qt,qt,qt,qt,qt,qt,qt,qt,qt,qt,qt,qt,qt,qt,qt,qt,qt,qt,qt,qf,qf,qf,qf,qf,qf,qf,qf,qf,qf,qf,qf,qf,qf,qf,qf,qf,qf,qf,qf,qf,qf,qf,qf,qf,qf,qf,qf,qf,qf,qf,qf,qf]
abbrev q20 : Array Bool := #[qt,qt,qt,qt,qt,qt,qt,qt,qt,qt,qt,qt,qt,qt,qt,qt,qt,qt,qt,qt,qf,qf,qf,qf,qf,qf,qf,qf,qf,qf,qf,qf,qf,qf,qf,qf,qf,qf,qf,qf,qf,qf,qf,qf,qf,qf,qf,qf,qf,qf,qf,qf]
abbrev q21 : Array Bool := #[qt,qt,qt,qt,qt,qt,qt,qt,qt,qt,qt,qt,qt,qt,qt,qt,qt,qt,qt,qt,qt,qf,qf,qf,qf,qf,qf,qf,qf,qf,qf,qf,qf,qf,qf,qf,qf,qf,qf,qf,qf,qf,qf,qf,qf,qf,qf,qf,qf,qf,qf,qf]
abbrev q22 : Array Bool := #[qt,qt,qt,qt,qt,qt,qt,qt,qt,qt,qt,qt,qt,qt,qt,qt,qt,qt,qt,qt,qt,qt,qf,qf,qf,qf,qf,qf,qf,qf,qf,qf,qf,qf,qf,qf,qf,qf,qf,qf,qf,qf,qf,qf,qf,qf,qf,qf,qf,qf,qf,qf]
abbrev q23 : Array Bool := #[qt,qt,qt,qt,qt,qt,qt,qt,qt,qt,qt,qt,qt,qt,qt,qt,qt,qt,qt,qt,qt,qt,qt,qf,qf,qf,qf,qf,qf,qf,qf,qf,qf,qf,qf,qf,qf,qf,qf,qf,qf,qf,qf,qf,qf,qf,qf,qf,qf,qf,qf,qf]
abbrev q24 : Array Bool := #[qt,qt,qt,qt,qt,qt,qt,qt,qt,qt,qt,qt,qt,qt,qt,qt,qt,qt,qt,qt,qt,qt,qt,qt,qf,qf,qf,qf,qf,qf,qf,qf,qf,qf,qf,qf,qf,qf,qf,qf,qf,qf,qf,qf,qf,qf,qf,qf,qf,qf,qf,qf]
abbrev q25 : Array Bool := #[qt,qt,qt,qt,qt,qt,qt,qt,qt,qt,qt,qt,qt,qt,qt,qt,qt,qt,qt,qt,qt,qt,qt,qt,qt,qf,qf,qf,qf,qf,qf,qf,qf,qf,qf,qf,qf,qf,qf,qf,qf,qf,qf,qf,qf,qf,qf,qf,qf,qf,qf,qf]
abbrev q26 : Array Bool := #[qt,qt,qt,qt,qt,qt,qt,qt,qt,qt,qt,qt,qt,qt,qt,qt,qt,qt,qt,qt,qt,qt,qt,qt,qt,qt,qf,qf,qf,qf,qf,qf,qf,qf,qf,qf,qf,qf,qf,qf,qf,qf,qf,qf,qf,qf,qf,qf,qf,qf,qf,qf]
abbrev q27 : Array Bool := #[qt,qt,qt,qt,qt,qt,qt,qt,qt,qt,qt,qt,qt,qt,qt,qt,qt,qt,qt,qt,qt,qt,qt,qt,qt,qt,qt,qf,qf,qf,qf,qf,qf,qf,qf,qf,qf,qf,qf,qf,qf,qf,qf,qf,qf,qf,qf,qf,qf,qf,qf,qf]
abbrev q28 : Array Bool := #[qt,qt,qt,qt,qt,qt,qt,qt,qt,qt,qt,qt,qt,qt,qt,qt,qt,qt,qt,qt,qt,qt,qt,qt,qt,qt,qt,qt,qf,qf,qf,qf,qf,qf,qf,qf,qf,qf,qf,qf,qf,qf,qf,qf,qf,qf,qf,qf,qf,qf,qf,qf]
abbrev q29 : Array Bool := #[qt,qt,qt,qt,qt,qt,qt,qt,qt,qt,qt,qt,qt,qt,qt,qt,qt,qt,qt,qt,qt,qt,qt,qt,qt,qt,qt,qt,qt,qf,qf,qf,qf,qf,qf,qf,qf,qf,qf,qf,qf,qf,qf,qf,qf,qf,qf,qf,qf,qf,qf,qf]
abbrev q30 : Array Bool := #[qt,qt,qt,qt,qt,qt,qt,qt,qt,qt,qt,qt,qt,qt,qt,qt,qt,qt,qt,qt,qt,qt,qt,qt,qt,qt,qt,qt,qt,qt,qf,qf,qf,qf,qf,qf,qf,qf,qf,qf,qf,qf,qf,qf,qf,qf,qf,qf,qf,qf,qf,qf]
abbrev q31 : Array Bool := #[qt,qt,qt,qt,qt,qt,qt,qt,qt,qt,qt,qt,qt,qt,qt,qt,qt,qt,qt,qt,qt,qt,qt,qt,qt,qt,qt,qt,qt,qt,qt,qf,qf,qf,qf,qf,qf,qf,qf,qf,qf,qf,qf,qf,qf,qf,qf,qf,qf,qf,qf,qf]
abbrev q32 : Array Bool := #[qt,qt,qt,qt,qt,qt,qt,qt,qt,qt,qt,qt,qt,qt,qt,qt,qt,qt,qt,qt,qt,qt,qt,qt,qt,qt,qt,qt,qt,qt,qt,qt,qf,qf,qf,qf,qf,qf,qf,qf,qf,qf,qf,qf,qf,qf,qf,qf,qf,qf,qf,qf]
abbrev q33 : Array Bool := #[qt,qt,qt,qt,qt,qt,qt,qt,qt,qt,qt,qt,qt,qt,qt,qt,qt,qt,qt,qt,qt,qt,qt,qt,qt,qt,qt,qt,qt,qt,qt,qt,qt,qf,qf,qf,qf,qf,qf,qf,qf,qf,qf,qf,qf,qf,qf,qf,qf,qf,qf,qf]
abbrev q34 : Array Bool := #[qt,qt,qt,qt,qt,qt,qt,qt,qt,qt,qt,qt,qt,qt,qt,qt,qt,qt,qt,qt,qt,qt,qt,qt,qt,qt,qt,qt,qt,qt,qt,qt,qt,qt,qf,qf,qf,qf,qf,qf,qf,qf,qf,qf,qf,qf,qf,qf,qf,qf,qf,qf]
abbrev q35 : Array Bool := #[qt,qt,qt,qt,qt,qt,qt,qt,qt,qt,qt,qt,qt,qt,qt,qt,qt,qt,qt,qt,qt,qt,qt,qt,qt,qt,qt,qt,qt,qt,qt,qt,qt,qt,qt,qf,qf,qf,qf,qf,qf,qf,qf,qf,qf,qf,qf,qf,qf,qf,qf,qf]
abbrev q36 : Array Bool := #[qt,qt,qt,qt,qt,qt,qt,qt,qt,qt,qt,qt,qt,qt,qt,qt,qt,qt,qt,qt,qt,qt,qt,qt,qt,qt,qt,qt,qt,qt,qt,qt,qt,qt,qt,qt,qf,qf,qf,qf,qf,qf,qf,qf,qf,qf,qf,qf,qf,qf,qf,qf]
abbrev q37 : Array Bool := #[qt,qt,qt,qt,qt,qt,qt,qt,qt,qt,qt,qt,qt,qt,qt,qt,qt,qt,qt,qt,qt,qt,qt,qt,qt,qt,qt,qt,qt,qt,qt,qt,qt,qt,qt,qt,qt,qf,qf,qf,qf,qf,qf,qf,qf,qf,qf,qf,qf,qf,qf,qf]
abbrev q38 : Array Bool := #[qt,qt,qt,qt,qt,qt,qt,qt,qt,qt,qt,qt,qt,qt,qt,qt,qt,qt,qt,qt,qt,qt,qt,qt,qt,qt,qt,qt,qt,qt,qt,qt,qt,qt,qt,qt,qt,qt,qf,qf,qf,qf,qf,qf,qf,qf,qf,qf,qf,qf,qf,qf]
abbrev q39 : Array Bool := #[qt,qt,qt,qt,qt,qt,qt,qt,qt,qt,qt,qt,qt,qt,qt,qt,qt,qt,qt,qt,qt,qt,qt,qt,qt,qt,qt,qt,qt,qt,qt,qt,qt,qt,qt,qt,qt,qt,qt,qf,qf,qf,qf,qf,qf,qf,qf,qf,qf,qf,qf,qf]
abbrev q40 : Array Bool := #[qt,qt,qt,qt,qt,qt,qt,qt,qt,qt,qt,qt,qt,qt,qt,qt,qt,qt,qt,qt,qt,qt,qt,qt,qt,qt,qt,qt,qt,qt,qt,qt,qt,qt,qt,qt,qt,qt,qt,qt,qf,qf,qf,qf,qf,qf,qf,qf,qf,qf,qf,qf]
abbrev q41 : Array Bool := #[qt,qt,qt,qt,qt,qt,qt,qt,qt,qt,qt,qt,qt,qt,qt,qt,qt,qt,qt,qt,qt,qt,qt,qt,qt,qt,qt,qt,qt,qt,qt,qt,qt,qt,qt,qt,qt,qt,qt,qt,qt,qf,qf,qf,qf,qf,qf,qf,qf,qf,qf,qf]
abbrev q42 : Array Bool := #[qt,qt,qt,qt,qt,qt,qt,qt,qt,qt,qt,qt,qt,qt,qt,qt,qt,qt,qt,qt,qt,qt,qt,qt,qt,qt,qt,qt,qt,qt,qt,qt,qt,qt,qt,qt,qt,qt,qt,qt,qt,qt,qf,qf,qf,qf,qf,qf,qf,qf,qf,qf]
abbrev q43 : Array Bool := #[qt,qt,qt,qt,qt,qt,qt,qt,qt,qt,qt,qt,qt,qt,qt,qt,qt,qt,qt,qt,qt,qt,qt,qt,qt,qt,qt,qt,qt,qt,qt,qt,qt,qt,qt,qt,qt,qt,qt,qt,qt,qt,qt,qf,qf,qf,qf,qf,qf,qf,qf,qf]
abbrev q44 : Array Bool := #[qt,qt,qt,qt,qt,qt,qt,qt,qt,qt,qt,qt,qt,qt,qt,qt,qt,qt,qt,qt,qt,qt,qt,qt,qt,qt,qt,qt,qt,qt,qt,qt,qt,qt,qt,qt,qt,qt,qt,qt,qt,qt,qt,qt,qf,qf,qf,qf,qf,qf,qf,qf]
abbrev q45 : Array Bool := #[qt,qt,qt,qt,qt,qt,qt,qt,qt,qt,qt,qt,qt,qt,qt,qt,qt,qt,qt,qt,qt,qt,qt,qt,qt,qt,qt,qt,qt,qt,qt,qt,qt,qt,qt,qt,qt,qt,qt,qt,qt,qt,qt,qt,qt,qf,qf,qf,qf,qf,qf,qf]
abbrev q46 : Array Bool := #[qt,qt,qt,qt,qt,qt,qt,qt,qt,qt,qt,qt,qt,qt,qt,qt,qt,qt,qt,qt,qt,qt,qt,qt,qt,qt,qt,qt,qt,qt,qt,qt,qt,qt,qt,qt,qt,qt,qt,qt,qt,qt,qt,qt,qt,qt,qf,qf,qf,qf,qf,qf]
abbrev q47 : Array Bool := #[qt,qt,qt,qt,qt,qt,qt,qt,qt,qt,qt,qt,qt,qt,qt,qt,qt,qt,qt,qt,qt,qt,qt,qt,qt,qt,qt,qt,qt,qt,qt,qt,qt,qt,qt,qt,qt,qt,qt,qt,qt,qt,qt,qt,qt,qt,qt,qf,qf,qf,qf,qf]
abbrev q48 : Array Bool := #[qt,qt,qt,qt,qt,qt,qt,qt,qt,qt,qt,qt,qt,qt,qt,qt,qt,qt,qt,qt,qt,qt,qt,qt,qt,qt,qt,qt,qt,qt,qt,qt,qt,qt,qt,qt,qt,qt,qt,qt,qt,qt,qt,qt,qt,qt,qt,qt,qf,qf,qf,qf]
abbrev q49 : Array Bool := #[qt,qt,qt,qt,qt,qt,qt,qt,qt,qt,qt,qt,qt,qt,qt,qt,qt,qt,qt,qt,qt,qt,qt,qt,qt,qt,qt,qt,qt,qt,qt,qt,qt,qt,qt,qt,qt,qt,qt,qt,qt,qt,qt,qt,qt,qt,qt,qt,qt,qf,qf,qf]
abbrev q50 : Array Bool := #[qt,qt,qt,qt,qt,qt,qt,qt,qt,qt,qt,qt,qt,qt,qt,qt,qt,qt,qt,qt,qt,qt,qt,qt,qt,qt,qt,qt,qt,qt,qt,qt,qt,qt,qt,qt,qt,qt,qt,qt,qt,qt,qt,qt,qt,qt,qt,qt,qt,qt,qf,qf]
abbrev q51 : Array Bool := #[qt,qt,qt,qt,qt,qt,qt,qt,qt,qt,qt,qt,qt,qt,qt,qt,qt,qt,qt,qt,qt,qt,qt,qt,qt,qt,qt,qt,qt,qt,qt,qt,qt,qt,qt,qt,qt,qt,qt,qt,qt,qt,qt,qt,qt,qt,qt,qt,qt,qt,qt,qf]
abbrev q52 : Array Bool := #[qt,qt,qt,qt,qt,qt,qt,qt,qt,qt,qt,qt,qt,qt,qt,qt,qt,qt,qt,qt,qt,qt,qt,qt,qt,qt,qt,qt,qt,qt,qt,qt,qt,qt,qt,qt,qt,qt,qt,qt,qt,qt,qt,qt,qt,qt,qt,qt,qt,qt,qt,qt]
abbrev q53 : Array Bool := #[qt,qt,qt,qt,qt,qt,qf,qt,qf,qf,qf,qf,qf,qf,qf,qf,qf,qf,qf,qf,qf,qf,qf,qf,qf,qf,qf,qf,qf,qf,qf,qf,qf,qf,qf,qf,qf,qf,qf,qf,qf,qf,qf,qf,qf,qf,qf,qf,qf,qf,qf,qf]
abbrev q54 : Array Bool := #[qt,qt,qt,qt,qt,qt,qf,qt,qt,qf,qf,qf,qf,qf,qf,qf,qf,qf,qf,qf,qf,qf,qf,qf,qf,qf,qf,qf,qf,qf,qf,qf,qf,qf,qf,qf,qf,qf,qf,qf,qf,qf,qf,qf,qf,qf,qf,qf,qf,qf,qf,qf]
abbrev q55 : Array Bool := #[qt,qt,qt,qt,qt,qt,qf,qt,qt,qt,qf,qf,qf,qf,qf,qf,qf,qf,qf,qf,qf,qf,qf,qf,qf,qf,qf,qf,qf,qf,qf,qf,qf,qf,qf,qf,qf,qf,qf,qf,qf,qf,qf,qf,qf,qf,qf,qf,qf,qf,qf,qf]
abbrev q56 : Array Bool := #[qt,qt,qt,qt,qt,qt,qf,qt,qt,qt,qt,qf,qf,qf,qf,qf,qf,qf,qf,qf,qf,qf,qf,qf,qf,qf,qf,qf,qf,qf,qf,qf,qf,qf,qf,qf,qf,qf,qf,qf,qf,qf,qf,qf,qf,qf,qf,qf,qf,qf,qf,qf]
abbrev q57 : Array Bool := #[qt,qt,qt,qt,qt,qt,qt,qt,qt,qt,qt,qt,qt,qt,qt,qt,qt,qf,qt,qf,qf,qf,qf,qf,qf,qf,qf,qf,qf,qf,qf,qf,qf,qf,qf,qf,qf,qf,qf,qf,qf,qf,qf,qf,qf,qf,qf,qf,qf,qf,qf,qf]
abbrev q58 : Array Bool := #[qt,qt,qt,qt,qt,qt,qt,qt,qt,qt,qt,qt,qt,qt,qt,qt,qt,qf,qt,qt,qf,qf,qf,qf,qf,qf,qf,qf,qf,qf,qf,qf,qf,qf,qf,qf,qf,qf,qf,qf,qf,qf,qf,qf,qf,qf,qf,qf,qf,qf,qf,qf]
abbrev q59 : Array Bool := #[qt,qt,qt,qt,qt,qt,qt,qt,qt,qt,qt,qt,qt,qt,qt,qt,qt,qf,qt,qt,qt,qf,qf,qf,qf,qf,qf,qf,qf,qf,qf,qf,qf,qf,qf,qf,qf,qf,qf,qf,qf,qf,qf,qf,qf,qf,qf,qf,qf,qf,qf,qf]
abbrev q60 : Array Bool := #[qt,qt,qt,qt,qt,qt,qt,qt,qt,qt,qt,qt,qt,qt,qt,qt,qt,qf,qt,qt,qt,qt,qf,qf,qf,qf,qf,qf,qf,qf,qf,qf,qf,qf,qf,qf,qf,qf,qf,qf,qf,qf,qf,qf,qf,qf,qf,qf,qf,qf,qf,qf]
abbrev q61 : Array Bool := #[qt,qt,qt,qt,qt,qt,qt,qt,qt,qt,qt,qt,qt,qt,qt,qt,qt,qt,qt,qt,qt,qt,qt,qt,qt,qt,qt,qt,qt,qt,qt,qf,qt,qf,qf,qf,qf,qf,qf,qf,qf,qf,qf,qf,qf,qf,qf,qf,qf,qf,qf,qf]
abbrev q62 : Array Bool := #[qt,qt,qt,qt,qt,qt,qt,qt,qt,qt,qt,qt,qt,qt,qt,qt,qt,qt,qt,qt,qt,qt,qt,qt,qt,qt,qt,qt,qt,qt,qt,qf,qt,qt,qf,qf,qf,qf,qf,qf,qf,qf,qf,qf,qf,qf,qf,qf,qf,qf,qf,qf]
abbrev q63 : Array Bool := #[qt,qt,qt,qt,qt,qt,qt,qt,qt,qt,qt,qt,qt,qt,qt,qt,qt,qt,qt,qt,qt,qt,qt,qt,qt,qt,qt,qt,qt,qt,qt,qf,qt,qt,qt,qf,qf,qf,qf,qf,qf,qf,qf,qf,qf,qf,qf,qf,qf,qf,qf,qf]
abbrev q64 : Array Bool := #[qt,qt,qt,qt,qt,qt,qt,qt,qt,qt,qt,qt,qt,qt,qt,qt,qt,qt,qt,qt,qt,qt,qt,qt,qt,qt,qt,qt,qt,qt,qt,qf,qt,qt,qt,qt,qf,qf,qf,qf,qf,qf,qf,qf,qf,qf,qf,qf,qf,qf,qf,qf]
abbrev q65 : Array Bool := #[qt,qt,qt,qt,qt,qt,qt,qt,qt,qt,qt,qt,qt,qt,qt,qt,qt,qt,qt,qt,qt,qt,qt,qt,qt,qt,qt,qt,qt,qt,qt,qt,qt,qt,qt,qt,qt,qt,qt,qt,qt,qt,qf,qt,qf,qf,qf,qf,qf,qf,qf,qf]
abbrev q66 : Array Bool := #[qt,qt,qt,qt,qt,qt,qt,qt,qt,qt,qt,qt,qt,qt,qt,qt,qt,qt,qt,qt,qt,qt,qt,qt,qt,qt,qt,qt,qt,qt,qt,qt,qt,qt,qt,qt,qt,qt,qt,qt,qt,qt,qf,qt,qt,qf,qf,qf,qf,qf,qf,qf]
abbrev q67 : Array Bool := #[qt,qt,qt,qt,qt,qt,qt,qt,qt,qt,qt,qt,qt,qt,qt,qt,qt,qt,qt,qt,qt,qt,qt,qt,qt,qt,qt,qt,qt,qt,qt,qt,qt,qt,qt,qt,qt,qt,qt,qt,qt,qt,qf,qt,qt,qt,qf,qf,qf,qf,qf,qf]
abbrev q68 : Array Bool := #[qt,qt,qt,qt,qt,qt,qt,qt,qt,qt,qt,qt,qt,qt,qt,qt,qt,qt,qt,qt,qt,qt,qt,qt,qt,qt,qt,qt,qt,qt,qt,qt,qt,qt,qt,qt,qt,qt,qt,qt,qt,qt,qf,qt,qt,qt,qt,qf,qf,qf,qf,qf]
abbrev q69 : Array Bool := #[qf,qf,qf,qf,qf,qf,qf,qf,qf,qf,qf,qf,qf,qf,qf]
abbrev q70 : Array Bool := #[qt,qf,qf,qf,qf,qf,qf,qf,qf,qf,qf,qf,qf,qf,qf]
abbrev q71 : Array Bool := #[qt,qt,qf,qf,qf,qf,qf,qf,qf,qf,qf,qf,qf,qf,qf]
abbrev q72 : Array Bool := #[qt,qt,qt,qf,qf,qf,qf,qf,qf,qf,qf,qf,qf,qf,qf]
abbrev q73 : Array Bool := #[qt,qt,qt,qt,qf,qf,qf,qf,qf,qf,qf,qf,qf,qf,qf]
abbrev q74 : Array Bool := #[qt,qt,qt,qt,qt,qf,qf,qf,qf,qf,qf,qf,qf,qf,qf]
abbrev q75 : Array Bool := #[qt,qt,qt,qt,qt,qt,qf,qf,qf,qf,qf,qf,qf,qf,qf]
abbrev q76 : Array Bool := #[qt,qt,qt,qt,qt,qt,qt,qf,qf,qf,qf,qf,qf,qf,qf]
abbrev q77 : Array Bool := #[qt,qt,qt,qt,qt,qt,qt,qf,qt,qf,qf,qf,qf,qf,qf]
abbrev q78 : Array Bool := #[qt,qt,qt,qt,qt,qt,qt,qf,qt,qt,qf,qf,qf,qf,qf]
abbrev q79 : Array Bool := #[qt,qt,qt,qt,qt,qt,qt,qf,qt,qt,qt,qf,qf,qf,qf]
abbrev q80 : Array Bool := #[qt,qt,qt,qt,qt,qt,qt,qf,qt,qt,qt,qt,qf,qf,qf]
abbrev q81 : Array Bool := #[qt,qt,qt,qt,qt,qt,qt,qt,qt,qt,qt,qt,qf,qf,qf]
abbrev q82 : Array Bool := #[qt,qt,qt,qt,qt,qt,qt,qt,qt,qt,qt,qt,qt,qf,qf]
abbrev q83 : Array Bool := #[qt,qt,qt,qt,qt,qt,qt,qt,qt,qt,qt,qt,qt,qt,qf]
abbrev q84 : Array Bool := #[qt,qt,qt,qt,qt,qt,qt,qt,qt,qt,qt,qt,qt,qt,qt]
abbrev q85 : Array Bool := #[qf,qf,qf,qf,qf,qf,qf,qf,qf,qf,qf,qf,qf,qf,qf,qf,qf]
abbrev q86 : Array Bool := #[qt,qf,qf,qf,qf,qf,qf,qf,qf,qf,qf,qf,qf,qf,qf,qf,qf]
abbrev q87 : Array Bool := #[qt,qt,qf,qf,qf,qf,qf,qf,qf,qf,qf,qf,qf,qf,qf,qf,qf]
abbrev q88 : Array Bool := #[qt,qt,qf,qt,qf,qf,qf,qf,qf,qf,qf,qf,qf,qf,qf,qf,qf]
abbrev q89 : Array Bool := #[qt,qt,qf,qt,qt,qf,qf,qf,qf,qf,qf,qf,qf,qf,qf,qf,qf]
abbrev q90 : Array Bool := #[qt,qt,qf,qt,qt,qt,qf,qf,qf,qf,qf,qf,qf,qf,qf,qf,qf]
abbrev q91 : Array Bool := #[qt,qt,qf,qt,qt,qt,qt,qf,qf,qf,qf,qf,qf,qf,qf,qf,qf]
abbrev q92 : Array Bool := #[qt,qt,qf,qt,qt,qt,qt,qf,qt,qf,qf,qf,qf,qf,qf,qf,qf]
abbrev q93 : Array Bool := #[qt,qt,qf,qt,qt,qt,qt,qf,qt,qt,qf,qf,qf,qf,qf,qf,qf]
abbrev q94 : Array Bool := #[qt,qt,qf,qt,qt,qt,qt,qf,qt,qt,qt,qf,qf,qf,qf,qf,qf]
abbrev q95 : Array Bool := #[qt,qt,qf,qt,qt,qt,qt,qf,qt,qt,qt,qt,qf,qf,qf,qf,qf]
abbrev q96 : Array Bool := #[qt,qt,qt,qt,qt,qt,qt,qf,qt,qt,qt,qt,qf,qf,qf,qf,qf]
abbrev q97 : Array Bool := #[qt,qt,qt,qt,qt,qt,qt,qt,qt,qt,qt,qt,qf,qf,qf,qf,qf]
abbrev q98 : Array Bool := #[qt,qt,qt,qt,qt,qt,qt,qt,qt,qt,qt,qt,qt,qf,qf,qf,qf]
abbrev q99 : Array Bool := #[qt,qt,qt,qt,qt,qt,qt,qt,qt,qt,qt,qt,qt,qt,qf,qf,qf]
abbrev q100 : Array Bool := #[qt,qt,qt,qt,qt,qt,qt,qt,qt,qt,qt,qt,qt,qt,qt,qf,qf]
abbrev q101 : Array Bool := #[qt,qt,qt,qt,qt,qt,qt,qt,qt,qt,qt,qt,qt,qt,qt,qt,qf]
abbrev q102 : Array Bool := #[qt,qt,qt,qt,qt,qt,qt,qt,qt,qt,qt,qt,qt,qt,qt,qt,qt]
abbrev q103 : Array Bool := #[qt,qt,qt,qf,qf,qf,qf,qf,qf,qf,qf,qf,qf,qf,qf,qf,qf]
abbrev q104 : Array Bool := #[qt,qt,qt,qt,qf,qf,qf,qf,qf,qf,qf,qf,qf,qf,qf,qf,qf]
abbrev q105 : Array Bool := #[qt,qt,qt,qt,qt,qf,qf,qf,qf,qf,qf,qf,qf,qf,qf,qf,qf]
abbrev q106 : Array Bool := #[qt,qt,qt,qt,qt,qt,qf,qf,qf,qf,qf,qf,qf,qf,qf,qf,qf]
abbrev q107 : Array Bool := #[qt,qt,qt,qt,qt,qt,qt,qf,qf,qf,qf,qf,qf,qf,qf,qf,qf]
abbrev q108 : Array Bool := #[qt,qt,qt,qt,qt,qt,qt,qt,qf,qf,qf,qf,qf,qf,qf,qf,qf]
abbrev q109 : Array Bool := #[qt,qt,qt,qt,qt,qt,qt,qt,qt,qf,qf,qf,qf,qf,qf,qf,qf]
abbrev q110 : Array Bool := #[qt,qt,qt,qt,qt,qt,qt,qt,qt,qt,qf,qf,qf,qf,qf,qf,qf]
abbrev q111 : Array Bool := #[qt,qt,qt,qt,qt,qt,qt,qt,qt,qt,qt,qf,qf,qf,qf,qf,qf]
/-! ### laws_FnMaps: function 6 -/
mutual
def laws_FnMaps.l0 : Nat → List (S61) → List (S63) → Bool → Int → Int → List (S63) → Option (Bool)
 | 0, _, _, _, _, _, _ => none
 | k + 1, x4, x5, x6, x7, x312000, x312001 => if x7 < (x5.length : Int) then (laws_FnMaps.l1 k x4 x5 x6 x7 false 0 x312000 x312001) else (laws_FnMaps.l3 k x4 x5 x6 0 0 x312000 x312001)
def laws_FnMaps.l1 : Nat → List (S61) → List (S63) → Bool → Int → Bool → Int → Int → List (S63) → Option (Bool)
 | 0, _, _, _, _, _, _, _, _ => none
 | k + 1, x4, x5, x6, x7, x8, x9, x312000, x312001 => if x9 < (x4.length : Int) then (if 0 ≤ x9 then (laws_FnMaps.l2 k x4 x5 x6 x7 x8 x9 ((rd_T61 x4 x9).f0) 1 x312000 x312001) else (none)) else (if x8 = true then (if 0 ≤ x7 then (if x7 < (x5.length : Int) then (if ((rd_T63 x5 x7).f0) ≥ ((rd_T63 x5 x7).f1) then (some false) else (if x6 = true then ((impl_LinkOf.f x312000 x312001 ((rd_T63 x5 x7).f0) ((rd_T63 x5 x7).f1)).bind fun t324 => (laws_FnMaps.l0 k x4 x5 (decide (t324 ≥ 0)) (wrap64 (x7 + 1)) x312000 x312001)) else (laws_FnMaps.l0 k x4 x5 false (wrap64 (x7 + 1)) x312000 x312001))) else (none)) else (none)) else (some false))
def laws_FnMaps.l2 : Nat → List (S61) → List (S63) → Bool → Int → Bool → Int → List Int → Int → Int → List (S63) → Option (Bool)
 | 0, _, _, _, _, _, _, _, _, _, _ => none
 | k + 1, x4, x5, x6, x7, x8, x9, x10, x11, x312000, x312001 => if x11 < (x10.length : Int) then (if x8 = true then (laws_FnMaps.l2 k x4 x5 x6 x7 true x9 x10 (wrap64 (x11 + 1)) x312000 x312001) else (if 0 ≤ (wrap64 (x11 - 1)) then (if (wrap64 (x11 - 1)) < (x10.length : Int) then (if 0 ≤ x7 then (if x7 < (x5.length : Int) then (if (rd x10 (wrap64 (x11 - 1))) = ((rd_T63 x5 x7).f0) then (if 0 ≤ x11 then (if (rd x10 x11) = ((rd_T63 x5 x7).f1) then (laws_FnMaps.l2 k x4 x5 x6 x7 true x9 x10 (wrap64 (x11 + 1)) x312000 x312001) else (if (rd x10 (wrap64 (x11 - 1))) = ((rd_T63 x5 x7).f1) then (laws_FnMaps.l2 k x4 x5 x6 x7 ((rd x10 x11) == ((rd_T63 x5 x7).f0)) x9 x10 (wrap64 (x11 + 1)) x312000 x312001) else (laws_FnMaps.l2 k x4 x5 x6 x7 false x9 x10 (wrap64 (x11 + 1)) x312000 x312001))) else (none)) else (if (rd x10 (wrap64 (x11 - 1))) = ((rd_T63 x5 x7).f1) then (if 0 ≤ x11 then (laws_FnMaps.l2 k x4 x5 x6 x7 ((rd x10 x11) == ((rd_T63 x5 x7).f0)) x9 x10 (wrap64 (x11 + 1)) x312000 x312001) else (none)) else (laws_FnMaps.l2 k x4 x5 x6 x7 false x9 x10 (wrap64 (x11 + 1)) x312000 x312001))) else (none)) else (none)) else (none)) else (none))) else (laws_FnMaps.l1 k x4 x5 x6 x7 x8 (wrap64 (x9 + 1)) x312000 x312001)
def laws_FnMaps.l3 : Nat → List (S61) → List (S63) → Bool → Int → Int → Int → List (S63) → Option (Bool)
 | 0, _, _, _, _, _, _, _ => none
 | k + 1, x4, x5, x6, x12, x13, x312000, x312001 => if x13 < (x4.length : Int) then (if 0 ≤ x13 then (laws_FnMaps.l3 k x4 x5 x6 (wrap64 (x12 + (((rd_T61 x4 x13).f0).length : Int))) (wrap64 (x13 + 1)) x312000 x312001) else (none)) else ((impl_FitsMap.f k x312000 x312001 x4).bind fun t339 => (if (x6 == t339) = true then ((impl_GapsIn.f k x4).bind fun t340 => (if t340 ≤ x12 then (if (x5.length : Int) > 0 then (some true) else ((impl_HasCircle.f k x5).bind fun t341 => (some (!t341)))) else (some false))) else (some false)))
end
def laws_FnMaps.f (k : Nat) (l0 : List Int) : Option (Bool) := (laws_big.f l0).bind fun t303 => (if t303 = true then (some true) else ((spec_DrawFitsMap.f k l0).bind fun bt304 => ((impl_MapOf.f k bt304.2.2).bind fun t312 => ((impl_AreTraces.f k bt304.2.2).bind fun t315 => ((spec_AreTraces.f k bt304.2.2).bind fun t316 => (if (t315 != t316) = true then (some false) else ((impl_AreTraces.f k bt304.2.2).bind fun t317 => (if t317 = true then ((impl_IsNet.f k bt304.1 bt304.2.1).bind fun t319 => (laws_FnMaps.l0 k bt304.2.2 t312 t319 0 bt304.1 bt304.2.1)) else (if (t312.length : Int) = 0 then ((impl_FitsMap.f k bt304.1 bt304.2.1 bt304.2.2).bind fun t318 => (some (!t318))) else (some false))))))))))
theorem laws_FnMaps.mono_l : ∀ k, (∀ y0 y1 y2 y3 y4 y5, LeO (laws_FnMaps.l0 k y0 y1 y2 y3 y4 y5) (laws_FnMaps.l0 (k + 1) y0 y1 y2 y3 y4 y5)) ∧ (∀ y0 y1 y2 y3 y4 y5 y6 y7, LeO (laws_FnMaps.l1 k y0 y1 y2 y3 y4 y5 y6 y7) (laws_FnMaps.l1 (k + 1) y0 y1 y2 y3 y4 y5 y6 y7)) ∧ (∀ y0 y1 y2 y3 y4 y5 y6 y7 y8 y9, LeO (laws_FnMaps.l2 k y0 y1 y2 y3 y4 y5 y6 y7 y8 y9) (laws_FnMaps.l2 (k + 1) y0 y1 y2 y3 y4 y5 y6 y7 y8 y9)) ∧ (∀ y0 y1 y2 y3 y4 y5 y6, LeO (laws_FnMaps.l3 k y0 y1 y2 y3 y4 y5 y6) (laws_FnMaps.l3 (k + 1) y0 y1 y2 y3 y4 y5 y6))
 | 0 => ⟨fun _ _ _ _ _ _ r h => by simp [laws_FnMaps.l0] at h, fun _ _ _ _ _ _ _ _ r h => by simp [laws_FnMaps.l1] at h, fun _ _ _ _ _ _ _ _ _ _ r h => by simp [laws_FnMaps.l2] at h, fun _ _ _ _ _ _ _ r h => by simp [laws_FnMaps.l3] at h⟩
 | k + 1 => by
  obtain ⟨ih0, ih1, ih2, ih3⟩ := laws_FnMaps.mono_l k
  refine ⟨?_, ?_, ?_, ?_⟩
  ·intro y0 y1 y2 y3 y4 y5
   unfold laws_FnMaps.l0
   repeat' first
   | (with_reducible exact ih0 _ _ _ _ _ _)
   | (with_reducible exact ih1 _ _ _ _ _ _ _ _)
   | (with_reducible exact ih2 _ _ _ _ _ _ _ _ _ _)
   | (with_reducible exact ih3 _ _ _ _ _ _ _)
   | (with_reducible exact impl_AreTraces.mono _ _)
   | (with_reducible exact impl_FitsMap.mono _ _ _ _)
   | (with_reducible exact impl_GapsIn.mono _ _)
   | (with_reducible exact impl_HasCircle.mono _ _)
   | (with_reducible exact impl_IsNet.mono _ _ _)
   | (with_reducible exact impl_MapOf.mono _ _)
   | (with_reducible exact spec_AreTraces.mono _ _)
   | (with_reducible exact spec_DrawFitsMap.mono _ _)
   | (with_reducible exact LeO.refl _)
   | (with_reducible exact LeO.none _)
   | (with_reducible refine LeO.ite ?_ ?_)
   | (with_reducible refine LeO.bind ?_ (fun _ => ?_))
   | exact ih0 _ _ _ _ _ _
   | exact ih1 _ _ _ _ _ _ _ _
   | exact ih2 _ _ _ _ _ _ _ _ _ _
   | exact ih3 _ _ _ _ _ _ _
   | exact impl_AreTraces.mono _ _
   | exact impl_FitsMap.mono _ _ _ _
   | exact impl_GapsIn.mono _ _
   | exact impl_HasCircle.mono _ _
   | exact impl_IsNet.mono _ _ _
   | exact impl_MapOf.mono _ _
   | exact spec_AreTraces.mono _ _
   | exact spec_DrawFitsMap.mono _ _
   | exact LeO.none _
   | refine LeO.ite ?_ ?_
   | refine LeO.bind ?_ (fun _ => ?_)
  ·intro y0 y1 y2 y3 y4 y5 y6 y7
   unfold laws_FnMaps.l1
   repeat' first
   | (with_reducible exact ih0 _ _ _ _ _ _)
   | (with_reducible exact ih1 _ _ _ _ _ _ _ _)
   | (with_reducible exact ih2 _ _ _ _ _ _ _ _ _ _)
   | (with_reducible exact ih3 _ _ _ _ _ _ _)
   | (with_reducible exact impl_AreTraces.mono _ _)
   | (with_reducible exact impl_FitsMap.mono _ _ _ _)
   | (with_reducible exact impl_GapsIn.mono _ _)
   | (with_reducible exact impl_HasCircle.mono _ _)
   | (with_reducible exact impl_IsNet.mono _ _ _)
   | (with_reducible exact impl_MapOf.mono _ _)
   | (with_reducible exact spec_AreTraces.mono _ _)
   | (with_reducible exact spec_DrawFitsMap.mono _ _)
   | (with_reducible exact LeO.refl _)
   | (with_reducible exact LeO.none _)
   | (with_reducible refine LeO.ite ?_ ?_)
   | (with_reducible refine LeO.bind ?_ (fun _ => ?_))
   | exact ih0 _ _ _ _ _ _
   | exact ih1 _ _ _ _ _ _ _ _
   | exact ih2 _ _ _ _ _ _ _ _ _ _
   | exact ih3 _ _ _ _ _ _ _
   | exact impl_AreTraces.mono _ _
   | exact impl_FitsMap.mono _ _ _ _
   | exact impl_GapsIn.mono _ _
   | exact impl_HasCircle.mono _ _
   | exact impl_IsNet.mono _ _ _
   | exact impl_MapOf.mono _ _
   | exact spec_AreTraces.mono _ _
   | exact spec_DrawFitsMap.mono _ _
   | exact LeO.none _
   | refine LeO.ite ?_ ?_
   | refine LeO.bind ?_ (fun _ => ?_)
  ·intro y0 y1 y2 y3 y4 y5 y6 y7 y8 y9
   unfold laws_FnMaps.l2
   repeat' first
   | (with_reducible exact ih0 _ _ _ _ _ _)
   | (with_reducible exact ih1 _ _ _ _ _ _ _ _)
   | (with_reducible exact ih2 _ _ _ _ _ _ _ _ _ _)
   | (with_reducible exact ih3 _ _ _ _ _ _ _)
   | (with_reducible exact impl_AreTraces.mono _ _)
   | (with_reducible exact impl_FitsMap.mono _ _ _ _)
   | (with_reducible exact impl_GapsIn.mono _ _)
   | (with_reducible exact impl_HasCircle.mono _ _)
   | (with_reducible exact impl_IsNet.mono _ _ _)
   | (with_reducible exact impl_MapOf.mono _ _)
   | (with_reducible exact spec_AreTraces.mono _ _)
   | (with_reducible exact spec_DrawFitsMap.mono _ _)
   | (with_reducible exact LeO.refl _)
   | (with_reducible exact LeO.none _)
   | (with_reducible refine LeO.ite ?_ ?_)
   | (with_reducible refine LeO.bind ?_ (fun _ => ?_))
   | exact ih0 _ _ _ _ _ _
   | exact ih1 _ _ _ _ _ _ _ _
   | exact ih2 _ _ _ _ _ _ _ _ _ _
   | exact ih3 _ _ _ _ _ _ _
   | exact impl_AreTraces.mono _ _
   | exact impl_FitsMap.mono _ _ _ _
   | exact impl_GapsIn.mono _ _
   | exact impl_HasCircle.mono _ _
   | exact impl_IsNet.mono _ _ _
   | exact impl_MapOf.mono _ _
   | exact spec_AreTraces.mono _ _
   | exact spec_DrawFitsMap.mono _ _
   | exact LeO.none _
   | refine LeO.ite ?_ ?_
   | refine LeO.bind ?_ (fun _ => ?_)
  ·intro y0 y1 y2 y3 y4 y5 y6
   unfold laws_FnMaps.l3
   repeat' first
   | (with_reducible exact ih0 _ _ _ _ _ _)
   | (with_reducible exact ih1 _ _ _ _ _ _ _ _)
   | (with_reducible exact ih2 _ _ _ _ _ _ _ _ _ _)
   | (with_reducible exact ih3 _ _ _ _ _ _ _)
   | (with_reducible exact impl_AreTraces.mono _ _)
   | (with_reducible exact impl_FitsMap.mono _ _ _ _)
   | (with_reducible exact impl_GapsIn.mono _ _)
   | (with_reducible exact impl_HasCircle.mono _ _)
   | (with_reducible exact impl_IsNet.mono _ _ _)
   | (with_reducible exact impl_MapOf.mono _ _)
   | (with_reducible exact spec_AreTraces.mono _ _)
   | (with_reducible exact spec_DrawFitsMap.mono _ _)
   | (with_reducible exact LeO.refl _)
   | (with_reducible exact LeO.none _)
   | (with_reducible refine LeO.ite ?_ ?_)
   | (with_reducible refine LeO.bind ?_ (fun _ => ?_))
   | exact ih0 _ _ _ _ _ _
   | exact ih1 _ _ _ _ _ _ _ _
   | exact ih2 _ _ _ _ _ _ _ _ _ _
   | exact ih3 _ _ _ _ _ _ _
   | exact impl_AreTraces.mono _ _
   | exact impl_FitsMap.mono _ _ _ _
   | exact impl_GapsIn.mono _ _
   | exact impl_HasCircle.mono _ _
   | exact impl_IsNet.mono _ _ _
   | exact impl_MapOf.mono _ _
   | exact spec_AreTraces.mono _ _
   | exact spec_DrawFitsMap.mono _ _
   | exact LeO.none _
   | refine LeO.ite ?_ ?_
   | refine LeO.bind ?_ (fun _ => ?_)
theorem laws_FnMaps.mono : ∀ a0 k, LeO (laws_FnMaps.f k a0) (laws_FnMaps.f (k + 1) a0) := by
 intro a0 k
 obtain ⟨ih0, ih1, ih2, ih3⟩ := laws_FnMaps.mono_l k
 unfold laws_FnMaps.f
 repeat' first
   | (with_reducible exact ih0 _ _ _ _ _ _)
   | (with_reducible exact ih1 _ _ _ _ _ _ _ _)
   | (with_reducible exact ih2 _ _ _ _ _ _ _ _ _ _)
   | (with_reducible exact ih3 _ _ _ _ _ _ _)
   | (with_reducible exact impl_AreTraces.mono _ _)
   | (with_reducible exact impl_FitsMap.mono _ _ _ _)
   | (with_reducible exact impl_GapsIn.mono _ _)
   | (with_reducible exact impl_HasCircle.mono _ _)
   | (with_reducible exact impl_IsNet.mono _ _ _)
   | (with_reducible exact impl_MapOf.mono _ _)
   | (with_reducible exact spec_AreTraces.mono _ _)
   | (with_reducible exact spec_DrawFitsMap.mono _ _)
   | (with_reducible exact LeO.refl _)
   | (with_reducible exact LeO.none _)
   | (with_reducible refine LeO.ite ?_ ?_)
   | (with_reducible refine LeO.bind ?_ (fun _ => ?_))
   | exact ih0 _ _ _ _ _ _
   | exact ih1 _ _ _ _ _ _ _ _
   | exact ih2 _ _ _ _ _ _ _ _ _ _
   | exact ih3 _ _ _ _ _ _ _
   | exact impl_AreTraces.mono _ _
   | exact impl_FitsMap.mono _ _ _ _
   | exact impl_GapsIn.mono _ _
   | exact impl_HasCircle.mono _ _
   | exact impl_IsNet.mono _ _ _
   | exact impl_MapOf.mono _ _
   | exact spec_AreTraces.mono _ _
   | exact spec_DrawFitsMap.mono _ _
   | exact LeO.none _
   | refine LeO.ite ?_ ?_
   | refine LeO.bind ?_ (fun _ => ?_)
def laws_FnMaps.T21 : Bool × List (List Nat × List Nat) := (true, [([], []), ([0], [0]), ([1], [1]), ([1], [1]), ([3, 1], [1, 3]), ([2, 4, 1], [1, 2, 4]), ([5, 1], [1, 5]), ([1], [1]), ([1], [1]), ([7, 8, 1], [1, 7, 8]), ([9, 1], [1, 9]), ([10, 1], [1, 10]), ([6, 11, 1], [1, 6, 11]), ([12, 1, 1], [1, 12]), ([13], [13]), ([13], [13]), ([14, 15, 13], [13, 14, 15]), ([16, 13], [13, 16]), ([13], [13]), ([13], [13]), ([18, 19, 13], [13, 18, 19]), ([20, 13], [13, 20]), ([21, 13], [13, 21]), ([17, 22, 13], [13, 17, 22]), ([13, 23, 1], [1, 13, 23]), ([1, 24], [1, 24]), ([25, 13], [25]), ([26], [26]), ([26], [26]), ([28, 26], [26, 28]), ([27, 29, 26], [26, 27, 29]), ([30, 26], [26, 30]), ([26], [26]), ([26], [26]), ([32, 33, 26], [26, 32, 33]), ([34, 26], [26, 34]), ([35, 26], [26, 35]), ([31, 36, 26], [26, 31, 36]), ([37, 26, 26], [26, 37]), ([38], [38]), ([38], [38]), ([39, 40, 38], [38, 39, 40]), ([41, 38], [38, 41]), ([38], [38]), ([38], [38]), ([43, 44, 38], [38, 43, 44]), ([45, 38], [38, 45]), ([46, 38], [38, 46]), ([42, 47, 38], [38, 42, 47]), ([38, 48, 26], [26, 38, 48]), ([26, 49], [26, 49]), ([50, 38, 0, 1, 2, 3, 4, 5, 6, 7, 8, 9, 10, 11, 12, 13, 14, 15, 16, 17, 18, 19, 20, 21, 22, 23, 24, 25, 26, 27, 28, 29, 30, 31, 32, 33, 34, 35, 36, 37, 38, 39, 40, 41, 42, 43, 44, 45, 46, 47, 48, 49, 50], [0, 50])])
def laws_FnMaps.B21 : List Nat := [0, 1, 3, 3, 11, 31, 63, 3, 3, 387, 899, 1923, 4095, 8191, 16383, 16383, 65535, 131071, 16383, 16383, 802815, 1851391, 3948543, 8388607, 16777215, 33554431, 67108863, 134217727, 134217727, 402653183, 1073741823, 2147483647, 134217727, 134217727, 13019119615, 30198988799, 64558727167, 137438953471, 274877906943, 549755813887, 549755813887, 2199023255551, 4398046511103, 549755813887, 549755813887, 26938034880511, 62122406969343, 132491151147007, 281474976710655, 562949953421311, 1125899906842623, 2251799813685247]
theorem laws_FnMaps.tab21 : rtab .any (opsOf Try.f6 21) = laws_FnMaps.T21 := by kernel_rfl
theorem laws_FnMaps.bits21 : waitsOk laws_FnMaps.T21.2 laws_FnMaps.B21 = true := by kernel_rfl
def laws_FnMaps.T22 : Bool × List (List Nat × List Nat) := (true, [([], []), ([0], [0]), ([1], [1]), ([2], [2]), ([2], [2]), ([3, 4, 2], [2, 3, 4]), ([5, 2], [2, 5]), ([6, 2], [2, 6]), ([2], [2]), ([2], [2]), ([8, 9, 2], [2, 8, 9]), ([10, 2], [2, 10]), ([11, 2], [2, 11]), ([7, 12, 2], [2, 7, 12]), ([2, 13], [2, 13])])
def laws_FnMaps.B22 : List Nat := [0, 1, 3, 7, 7, 31, 63, 127, 7, 7, 775, 1799, 3847, 8191, 16383]
theorem laws_FnMaps.tab22 : rtab .any (opsOf Try.f6 22) = laws_FnMaps.T22 := by kernel_rfl
theorem laws_FnMaps.bits22 : waitsOk laws_FnMaps.T22.2 laws_FnMaps.B22 = true := by kernel_rfl
def laws_FnMaps.T24 : Bool × List (List Nat × List Nat) := (true, [([], []), ([0], [0]), ([1], [1]), ([1], [1]), ([1], [1]), ([3, 4, 1], [1, 3, 4]), ([5, 1], [1, 5]), ([6, 1], [1, 6]), ([1], [1]), ([1], [1]), ([8, 9, 1], [1, 8, 9]), ([10, 1], [1, 10]), ([11, 1], [1, 11]), ([2, 7, 12, 1, 1], [1, 2, 7, 12]), ([13, 1], [1, 13]), ([1, 14], [1, 14]), ([15, 13, 0, 1, 2, 3, 4, 5, 6, 7, 8, 9, 10, 11, 12, 13, 14, 15], [0, 15])])
def laws_FnMaps.B24 : List Nat := [0, 1, 3, 3, 3, 27, 59, 123, 3, 3, 771, 1795, 3843, 8191, 16383, 32767, 65535]
theorem laws_FnMaps.tab24 : rtab .any (opsOf Try.f6 24) = laws_FnMaps.T24 := by kernel_rfl
theorem laws_FnMaps.bits24 : waitsOk laws_FnMaps.T24.2 laws_FnMaps.B24 = true := by kernel_rfl
set_option maxHeartbeats 8000000 in
set_option maxRecDepth 100000 in
theorem laws_FnMaps.calls (k : Nat) (A0 : Option Addr) (c0 : Nat) (l0 : List Int) (r : Bool) (w : World) (hr0 : Kd.C (Kd.int .u8) w A0 l0.length l0) (hc0 : l0.length ≤ c0) (h : laws_FnMaps.f k l0 = some r) (hrt : Aside0 (r = true)) :
  Calls Try.prog 6 #[.slice A0 l0.length c0] w fun e w' => e = .returned (.bool r) ∧ Below w.heap.size w w' := by
 have hu54 := Try.underlying54
 have HR0 := Aside0.mk hr0
 have HC0 := Aside0.mk hc0
 clear hr0 hc0
 have HB := Aside0.mk (Below.refl w.heap.size w)
 have H : ((laws_big.f l0).bind fun t303 => (if t303 = true then (some true) else ((spec_DrawFitsMap.f k l0).bind fun bt304 => ((impl_MapOf.f k bt304.2.2).bind fun t312 => ((impl_AreTraces.f k bt304.2.2).bind fun t315 => ((spec_AreTraces.f k bt304.2.2).bind fun t316 => (if (t315 != t316) = true then (some false) else ((impl_AreTraces.f k bt304.2.2).bind fun t317 => (if t317 = true then ((impl_IsNet.f k bt304.1 bt304.2.1).bind fun t319 => (laws_FnMaps.l0 k bt304.2.2 t312 t319 0 bt304.1 bt304.2.1)) else (if (t312.length : Int) = 0 then ((impl_FitsMap.f k bt304.1 bt304.2.1 bt304.2.2).bind fun t318 => (some (!t318))) else (some false))))))))))) = some r := h
 clear h
 replace H := Option.bind_eq_some_iff.mp H
 obtain ⟨t303, A20, H⟩ := H
 replace H : (if t303 = true then (some true) else ((spec_DrawFitsMap.f k l0).bind fun bt304 => ((impl_MapOf.f k bt304.2.2).bind fun t312 => ((impl_AreTraces.f k bt304.2.2).bind fun t315 => ((spec_AreTraces.f k bt304.2.2).bind fun t316 => (if (t315 != t316) = true then (some false) else ((impl_AreTraces.f k bt304.2.2).bind fun t317 => (if t317 = true then ((impl_IsNet.f k bt304.1 bt304.2.1).bind fun t319 => (laws_FnMaps.l0 k bt304.2.2 t312 t319 0 bt304.1 bt304.2.1)) else (if (t312.length : Int) = 0 then ((impl_FitsMap.f k bt304.1 bt304.2.1 bt304.2.2).bind fun t318 => (some (!t318))) else (some false)))))))))) = some r := H
 have A2 := Aside0.mk A20
 clear A20
 by_cases c3 : t303 = true
 ·subst c3
  have H1 : (some true) = some r := by rw [if_pos rfl] at H; exact H
  clear H
  have H := H1
  clear H1
  obtain rfl := Option.some.inj H
  go_enter Try.func6, Try.ntmps6
  go_wp2_with (first | ((with_reducible refine gate_callee (f := 16) rfl ?_); refine goesL_ (some 15) rfl rfl Try.func16 (by kernel_rfl) rfl #[.slice A0 l0.length c0] rfl (by (try simp only [List.map_toArray, List.map_cons, List.map_nil]); first | done | rfl | (simp only [List.length_drop, List.length_take]; rfl)) ?_; (with_reducible refine (laws_big.calls _ _ l0 true _ ?side1 ?side2 A2.out).mono ?_); (case side1 => repeat (first | exact HR0.out | (with_reducible refine Kd.C_alloc ?_ _) | (with_reducible refine Kd.C_drewN ?_ _) | (with_reducible refine Kd.C_drew ?_))); (case side2 => exact HC0.out); rintro e w' ⟨rfl, ⟨nd, rfl⟩⟩; refine ⟨_, rfl, ?_⟩))
  go_ret
  exact ⟨by first | rfl | (simp [errW_none, errW_some] <;> rfl) | (simp [*, errW_none, errW_some] <;> rfl), bw0_ HB⟩
 ·replace c3 := Bool.eq_false_iff.mpr c3
  subst c3
  have H1 : ((spec_DrawFitsMap.f k l0).bind fun bt304 => ((impl_MapOf.f k bt304.2.2).bind fun t312 => ((impl_AreTraces.f k bt304.2.2).bind fun t315 => ((spec_AreTraces.f k bt304.2.2).bind fun t316 => (if (t315 != t316) = true then (some false) else ((impl_AreTraces.f k bt304.2.2).bind fun t317 => (if t317 = true then ((impl_IsNet.f k bt304.1 bt304.2.1).bind fun t319 => (laws_FnMaps.l0 k bt304.2.2 t312 t319 0 bt304.1 bt304.2.1)) else (if (t312.length : Int) = 0 then ((impl_FitsMap.f k bt304.1 bt304.2.1 bt304.2.2).bind fun t318 => (some (!t318))) else (some false))))))))) = some r := by rw [if_neg (show ¬ (false = true) by decide)] at H; exact H
  clear H
  have H := H1
  clear H1
  replace H := Option.bind_eq_some_iff.mp H
  obtain ⟨⟨t304, t305, t308⟩, A40, H⟩ := H
  replace H : ((impl_MapOf.f k t308).bind fun t312 => ((impl_AreTraces.f k t308).bind fun t315 => ((spec_AreTraces.f k t308).bind fun t316 => (if (t315 != t316) = true then (some false) else ((impl_AreTraces.f k t308).bind fun t317 => (if t317 = true then ((impl_IsNet.f k t304 t305).bind fun t319 => (laws_FnMaps.l0 k t308 t312 t319 0 t304 t305)) else (if (t312.length : Int) = 0 then ((impl_FitsMap.f k t304 t305 t308).bind fun t318 => (some (!t318))) else (some false)))))))) = some r := H
  have A4 := Aside0.mk A40
  clear A40
  replace H := Option.bind_eq_some_iff.mp H
  obtain ⟨t312, A50, H⟩ := H
  replace H : ((impl_AreTraces.f k t308).bind fun t315 => ((spec_AreTraces.f k t308).bind fun t316 => (if (t315 != t316) = true then (some false) else ((impl_AreTraces.f k t308).bind fun t317 => (if t317 = true then ((impl_IsNet.f k t304 t305).bind fun t319 => (laws_FnMaps.l0 k t308 t312 t319 0 t304 t305)) else (if (t312.length : Int) = 0 then ((impl_FitsMap.f k t304 t305 t308).bind fun t318 => (some (!t318))) else (some false))))))) = some r := H
  have A5 := Aside0.mk A50
  clear A50
  replace H := Option.bind_eq_some_iff.mp H
  obtain ⟨t315, A60, H⟩ := H
  replace H : ((spec_AreTraces.f k t308).bind fun t316 => (if (t315 != t316) = true then (some false) else ((impl_AreTraces.f k t308).bind fun t317 => (if t317 = true then ((impl_IsNet.f k t304 t305).bind fun t319 => (laws_FnMaps.l0 k t308 t312 t319 0 t304 t305)) else (if (t312.length : Int) = 0 then ((impl_FitsMap.f k t304 t305 t308).bind fun t318 => (some (!t318))) else (some false)))))) = some r := H
  have A6 := Aside0.mk A60
  clear A60
  replace H := Option.bind_eq_some_iff.mp H
  obtain ⟨t316, A70, H⟩ := H
  replace H : (if (t315 != t316) = true then (some false) else ((impl_AreTraces.f k t308).bind fun t317 => (if t317 = true then ((impl_IsNet.f k t304 t305).bind fun t319 => (laws_FnMaps.l0 k t308 t312 t319 0 t304 t305)) else (if (t312.length : Int) = 0 then ((impl_FitsMap.f k t304 t305 t308).bind fun t318 => (some (!t318))) else (some false))))) = some r := H
  have A7 := Aside0.mk A70
  clear A70
  by_cases c8 : (t315 != t316) = true
  ·rw [if_pos c8] at H
   have c8b0 : (t315 != t316) = true := c8
   (try (have c8b1 : decide (t315 = t316) = false := by simpa using c8))
   (try (have c8b2 : (t315 == t316) = false := by simpa using c8))
   (try (have c8b3 : ¬ (t315 = t316) := by simpa using c8))
   clear c8
   exact absurd ((Option.some.inj H).trans hrt.out) (by decide)
  ·rw [if_neg c8] at H
   have c8b0 : (t315 != t316) = false := by simpa using c8
   (try (have c8b1 : decide (t315 = t316) = true := by simpa using c8))
   (try (have c8b2 : (t315 == t316) = true := by simpa using c8))
   clear c8
   replace H := Option.bind_eq_some_iff.mp H
   obtain ⟨t317, A90, H⟩ := H
   replace H : (if t317 = true then ((impl_IsNet.f k t304 t305).bind fun t319 => (laws_FnMaps.l0 k t308 t312 t319 0 t304 t305)) else (if (t312.length : Int) = 0 then ((impl_FitsMap.f k t304 t305 t308).bind fun t318 => (some (!t318))) else (some false))) = some r := H
   have A9 := Aside0.mk A90
   clear A90
   by_cases c10 : t317 = true
   ·subst c10
    have H1 : ((impl_IsNet.f k t304 t305).bind fun t319 => (laws_FnMaps.l0 k t308 t312 t319 0 t304 t305)) = some r := by rw [if_pos rfl] at H; exact H
    clear H
    have H := H1
    clear H1
    replace H := Option.bind_eq_some_iff.mp H
    obtain ⟨t319, A110, H⟩ := H
    replace H : (laws_FnMaps.l0 k t308 t312 t319 0 t304 t305) = some r := H
    have A11 := Aside0.mk A110
    clear A110
    have H' := Aside0.mk H
    clear H
    go_enter Try.func6, Try.ntmps6
    go_wp2_with (first | ((with_reducible refine gate_callee (f := 16) rfl ?_); refine goesL_ (some 15) rfl rfl Try.func16 (by kernel_rfl) rfl #[.slice A0 l0.length c0] rfl (by (try simp only [List.map_toArray, List.map_cons, List.map_nil]); first | done | rfl | (simp only [List.length_drop, List.length_take]; rfl)) ?_; (with_reducible refine (laws_big.calls _ _ l0 false _ ?side1 ?side2 A2.out).mono ?_); (case side1 => repeat (first | exact HR0.out | (with_reducible refine Kd.C_alloc ?_ _) | (with_reducible refine Kd.C_drewN ?_ _) | (with_reducible refine Kd.C_drew ?_))); (case side2 => exact HC0.out); rintro e w' ⟨rfl, ⟨nd, rfl⟩⟩; refine ⟨_, rfl, ?_⟩) | ((with_reducible refine gate_callee (f := 33) rfl ?_); refine goesL_ (some 18) rfl rfl Try.func33 (by kernel_rfl) rfl #[.slice A0 l0.length c0] rfl (by (try simp only [List.map_toArray, List.map_cons, List.map_nil]); first | done | rfl | (simp only [List.length_drop, List.length_take]; rfl)) ?_; (with_reducible refine (spec_DrawFitsMap.calls k _ _ l0 t304 t305 t308 _ ?side1 ?side2 A4.out).mono ?_); (case side1 => repeat (first | exact HR0.out | (with_reducible refine Kd.C_alloc ?_ _) | (with_reducible refine Kd.C_drewN ?_ _) | (with_reducible refine Kd.C_drew ?_))); (case side2 => exact HC0.out); rintro e w12 ⟨v306, v309, rfl, ho0, ho1, hb⟩; refine ⟨_, rfl, ?_⟩; have n0_ := Aside0.mk (Kd.R_lower (Kd.R_mono (ok' := fun k_ => True) ho0 (fun _ hk_ => trivial)) (below_size (bw0_ HB))); have n1_ := Aside0.mk (Kd.V_lower (Kd.V_mono (ok' := fun k_ => some k_ ≠ (v306 : Value).ownBlock) ho1 (fun k_ hk_ => hk_.2)) (below_size (bw0_ HB))); have n2_ := Aside0.mk (below_step (bw0_ HB) hb); clear HB; have HO307 := n0_; have HO310 := n1_; have HB := n2_; clear n0_ n1_ n2_; (try clear hb); (try clear hb2); (try clear hk); (try clear hi); (try clear ho0); (try clear ho1)) | ((with_reducible refine gate_dst (N := 3) rfl ?_); (try (refine gate_guard (by rfl) ?_; dsimp only)); refine box_event ?hg (N := 3) ?hd (cs := #[.int .i64 0, .slice none 0 0]) (t := 54) ?hr ?_; (case hd => rfl); (case hg => rfl); (case hr => first | (go_simp; done) | (go_simp; rfl)); intro gb311 hg w13 hbox hb; have n0_ := Aside0.mk (Kd.R_below (kr_ HO307) hb); have n1_ := Aside0.mk (Kd.V_below (Kd.V_elderB (kv_ HO310) gb311 (Nat.le_of_eq hg.symm)) hb); have n2_ := Aside0.mk (below_step (bw0_ HB) hb); have n3_ := Aside0.mk (hbox); have n4_ := Aside0.mk ((by rw [hg]; exact (below_size (bw0_ HB)) : w.heap.size ≤ gb311)); have n5_ := Aside0.mk ((by rw [hg]; exact (below_size (bw0_ HB)) : w.heap.size ≤ gb311)); clear HO307; clear HO310; clear HB; have HO307 := n0_; have HO310 := n1_; have HB := n2_; have BK311 := n3_; have GW311 := n4_; have GE311 := n5_; clear n0_ n1_ n2_ n3_ n4_ n5_; clear hb hbox hg; have hcz14_0 : w13.cell? ⟨gb311, 0, none⟩ = some (.int .i64 0) := (blk_cell BK311.out 0).trans rfl; have hcz14_1 : w13.cell? ⟨gb311, 1, none⟩ = some (.slice none 0 0) := (blk_cell BK311.out 1).trans rfl; have hfz14_0 := blk_frozen BK311.out 0; have hfz14_1 := blk_frozen BK311.out 1; obtain ⟨Ao15, co15, eo15⟩ := Kd.R_slice HO307.out; subst eo15; obtain ⟨Ao16, co16, eo16⟩ := Kd.V_slice HO310.out; subst eo16) | ((with_reducible refine gate_callee (f := 27) rfl ?_); refine goesL_ (some 22) rfl rfl Try.func27 (by kernel_rfl) rfl #[.slice Ao16 t308.length co16] rfl (by (try simp only [List.map_toArray, List.map_cons, List.map_nil]); first | done | rfl | (simp only [List.length_drop, List.length_take]; rfl)) ?_; (with_reducible refine (impl_MapOf.calls k _ _ t308 t312 _ ?side1 ?side2 A5.out).mono ?_); (case side1 => refine (Kd.V_reads' (e := 61) (base := w.heap.size) (ok := fun k_ => (some k_ ≠ (.slice Ao15 t305.length co15 : Value).ownBlock ∧ k_ ≠ gb311)) (n := t308.length) (c := co16) ?_).2.2; exact (by (with_reducible repeat (first | apply Kd.V_alloc | apply Kd.V_drewN | apply Kd.V_drew)); exact (Kd.V_mono (Kd.V_far (p := ⟨gb311, 1, none⟩) (Kd.V_far (p := ⟨gb311, 0, none⟩) (Kd.V_mono HO310.out (fun k_ hk => (⟨hk, hk.2⟩ : _ ∧ k_ ≠ gb311))) (fun _ hk => hk.2) (.int .i64 t304)) (fun _ hk => hk.2) (.slice Ao15 t305.length co15)) (fun _ h_ => h_.1)))); (case side2 => exact (Kd.V_reads' HO310.out).2.1); rintro e w17 ⟨v313, rfl, ho0, hb⟩; refine ⟨_, rfl, ?_⟩; have n0_ := Aside0.mk (Kd.R_elder' (by (with_reducible repeat (first | apply Kd.R_alloc | apply Kd.R_drewN | apply Kd.R_drew)); exact (Kd.R_mono (Kd.R_far (p := ⟨gb311, 1, none⟩) (Kd.R_far (p := ⟨gb311, 0, none⟩) (Kd.R_types HO307.out BK311.out (by decide)) (fun _ hk => hk.2) (.int .i64 t304)) (fun _ hk => hk.2) (.slice Ao15 t305.length co15)) (fun _ h_ => h_.1))) (Kd.R_base ho0) hb); have n1_ := Aside0.mk (Kd.V_elder' (by (with_reducible repeat (first | apply Kd.V_alloc | apply Kd.V_drewN | apply Kd.V_drew)); exact (Kd.V_mono (Kd.V_far (p := ⟨gb311, 1, none⟩) (Kd.V_far (p := ⟨gb311, 0, none⟩) (Kd.V_mono HO310.out (fun k_ hk => (⟨hk, hk.2⟩ : _ ∧ k_ ≠ gb311))) (fun _ hk => hk.2) (.int .i64 t304)) (fun _ hk => hk.2) (.slice Ao15 t305.length co15)) (fun _ h_ => h_.1))) (Kd.R_base ho0) hb); have n2_ := Aside0.mk (Kd.R_lower (Kd.R_new' ho0 (Kd.R_lt (by (with_reducible repeat (first | apply Kd.R_alloc | apply Kd.R_drewN | apply Kd.R_drew)); exact (Kd.R_mono (Kd.R_far (p := ⟨gb311, 1, none⟩) (Kd.R_far (p := ⟨gb311, 0, none⟩) (Kd.R_types HO307.out BK311.out (by decide)) (fun _ hk => hk.2) (.int .i64 t304)) (fun _ hk => hk.2) (.slice Ao15 t305.length co15)) (fun _ h_ => h_.1))))) (below_size (bw1_ HB GE311.out))); have n3_ := Aside0.mk (blk_below (g := gb311) (o := .cells #[.int .i64 t304, .slice Ao15 t305.length co15] 54 (0, 0)) (by (with_reducible repeat (first | refine blk_drewN ?_ _ | refine blk_drew ?_ | refine blk_alloc ?_ _)); refine blk_put (cs := #[.int .i64 t304, .slice none 0 0]) ?_ 1 _ rfl; (with_reducible repeat (first | refine blk_drewN ?_ _ | refine blk_drew ?_ | refine blk_alloc ?_ _)); refine blk_put (cs := #[.int .i64 0, .slice none 0 0]) ?_ 0 _ rfl; (with_reducible repeat (first | refine blk_drewN ?_ _ | refine blk_drew ?_ | refine blk_alloc ?_ _)); exact BK311.out) hb); have n4_ := Aside0.mk (below_step (bw1_ HB GE311.out) hb); clear HO307; clear HO310; clear BK311; clear HB; have HO307 := n0_; have HO310 := n1_; have HO314 := n2_; have BK311 := n3_; have HB := n4_; clear n0_ n1_ n2_ n3_ n4_; (try clear hb); (try clear hb2); (try clear hk); (try clear hi); (try clear ho0)) | ((with_reducible refine gate_callee (f := 34) rfl ?_); refine goesL_ (some 24) rfl rfl Try.func34 (by kernel_rfl) rfl #[.slice Ao16 t308.length co16] rfl (by (try simp only [List.map_toArray, List.map_cons, List.map_nil]); first | done | rfl | (simp only [List.length_drop, List.length_take]; rfl)) ?_; (with_reducible refine (impl_AreTraces.calls k _ _ t308 t315 _ ?side1 ?side2 A6.out).mono ?_); (case side1 => repeat (first | exact (Kd.V_reads' HO310.out).2.2 | (with_reducible refine Kd.C_alloc ?_ _) | (with_reducible refine Kd.C_drewN ?_ _) | (with_reducible refine Kd.C_drew ?_))); (case side2 => exact (Kd.V_reads' HO310.out).2.1); rintro e w18 ⟨rfl, hb⟩; refine ⟨_, rfl, ?_⟩; have n0_ := Aside0.mk (Kd.R_below (kr_ HO307) hb); have n1_ := Aside0.mk (Kd.V_below (kv_ HO310) hb); have n2_ := Aside0.mk (Kd.R_below (kr_ HO314) hb); have n3_ := Aside0.mk (blk_below (g := gb311) (o := .cells #[.int .i64 t304, .slice Ao15 t305.length co15] 54 (0, 0)) (bk_ BK311) hb); have n4_ := Aside0.mk (below_step (bw1_ HB GE311.out) hb); clear HO307; clear HO310; clear HO314; clear BK311; clear HB; have HO307 := n0_; have HO310 := n1_; have HO314 := n2_; have BK311 := n3_; have HB := n4_; clear n0_ n1_ n2_ n3_ n4_; (try clear hb); (try clear hb2); (try clear hk); (try clear hi)) | ((with_reducible refine gate_callee (f := 35) rfl ?_); refine goesL_ (some 26) rfl rfl Try.func35 (by kernel_rfl) rfl #[.slice Ao16 t308.length co16] rfl (by (try simp only [List.map_toArray, List.map_cons, List.map_nil]); first | done | rfl | (simp only [List.length_drop, List.length_take]; rfl)) ?_; (with_reducible refine (spec_AreTraces.calls k _ _ t308 t316 _ ?side1 ?side2 A7.out).mono ?_); (case side1 => repeat (first | exact (Kd.V_reads' HO310.out).2.2 | (with_reducible refine Kd.C_alloc ?_ _) | (with_reducible refine Kd.C_drewN ?_ _) | (with_reducible refine Kd.C_drew ?_))); (case side2 => exact (Kd.V_reads' HO310.out).2.1); rintro e w' ⟨rfl, ⟨nd, rfl⟩⟩; refine ⟨_, rfl, ?_⟩) | ((with_reducible refine gate_callee (f := 34) rfl ?_); refine goesL_ (some 29) rfl rfl Try.func34 (by kernel_rfl) rfl #[.slice Ao16 t308.length co16] rfl (by (try simp only [List.map_toArray, List.map_cons, List.map_nil]); first | done | rfl | (simp only [List.length_drop, List.length_take]; rfl)) ?_; (with_reducible refine (impl_AreTraces.calls k _ _ t308 true _ ?side1 ?side2 A9.out).mono ?_); (case side1 => repeat (first | exact (Kd.V_reads' HO310.out).2.2 | (with_reducible refine Kd.C_alloc ?_ _) | (with_reducible refine Kd.C_drewN ?_ _) | (with_reducible refine Kd.C_drew ?_))); (case side2 => exact (Kd.V_reads' HO310.out).2.1); rintro e w19 ⟨rfl, hb⟩; refine ⟨_, rfl, ?_⟩; have n0_ := Aside0.mk (Kd.R_below (kr_ HO307) hb); have n1_ := Aside0.mk (Kd.V_below (kv_ HO310) hb); have n2_ := Aside0.mk (Kd.R_below (kr_ HO314) hb); have n3_ := Aside0.mk (blk_below (g := gb311) (o := .cells #[.int .i64 t304, .slice Ao15 t305.length co15] 54 (0, 0)) (bk_ BK311) hb); have n4_ := Aside0.mk (below_step (bw1_ HB GE311.out) hb); clear HO307; clear HO310; clear HO314; clear BK311; clear HB; have HO307 := n0_; have HO310 := n1_; have HO314 := n2_; have BK311 := n3_; have HB := n4_; clear n0_ n1_ n2_ n3_ n4_; (try clear hb); (try clear hb2); (try clear hk); (try clear hi); have hcz20_0 : w19.cell? ⟨gb311, 0, none⟩ = some (.int .i64 t304) := (blk_cell BK311.out 0).trans rfl; have hcz20_1 : w19.cell? ⟨gb311, 1, none⟩ = some (.slice Ao15 t305.length co15) := (blk_cell BK311.out 1).trans rfl; have hfz20_0 := blk_frozen BK311.out 0; have hfz20_1 := blk_frozen BK311.out 1) | ((with_reducible refine gate_callee (f := 37) rfl ?_); refine goesL_ (some 41) rfl rfl Try.func37 (by kernel_rfl) rfl #[.agg #[.int .i64 t304, .slice Ao15 t305.length co15]] rfl (by (try simp only [List.map_toArray, List.map_cons, List.map_nil]); first | done | rfl | (simp only [List.length_drop, List.length_take]; rfl)) ?_; (with_reducible refine (impl_IsNet.calls k t304 _ _ t305 t319 _ ?side1 ?side2 A11.out).mono ?_); (case side1 => repeat (first | exact (Kd.R_reads' HO307.out).2.2 | (with_reducible refine Kd.C_alloc ?_ _) | (with_reducible refine Kd.C_drewN ?_ _) | (with_reducible refine Kd.C_drew ?_))); (case side2 => exact (Kd.R_reads' HO307.out).2.1); rintro e w21 ⟨rfl, hb⟩; refine ⟨_, rfl, ?_⟩; have n0_ := Aside0.mk (Kd.R_below (kr_ HO307) hb); have n1_ := Aside0.mk (Kd.V_below (kv_ HO310) hb); have n2_ := Aside0.mk (Kd.R_below (kr_ HO314) hb); have n3_ := Aside0.mk (blk_below (g := gb311) (o := .cells #[.int .i64 t304, .slice Ao15 t305.length co15] 54 (0, 0)) (bk_ BK311) hb); have n4_ := Aside0.mk (below_step (bw1_ HB GE311.out) hb); clear HO307; clear HO310; clear HO314; clear BK311; clear HB; have HO307 := n0_; have HO310 := n1_; have HO314 := n2_; have BK311 := n3_; have HB := n4_; clear n0_ n1_ n2_ n3_ n4_; (try clear hb); (try clear hb2); (try clear hk); (try clear hi)))
    go_loopg [6, 7] k (fun kq v6 v7 w' => ∃ (x6_1 : Bool) (x7_1 : Int), v6 = .bool x6_1 ∧ v7 = .int .i64 x7_1 ∧ Aside0 (laws_FnMaps.l0 kq t308 t312 x6_1 x7_1 t304 t305 = some r) ∧ Aside0 (kq ≤ k) ∧ Aside0 (Kd.V k61 61 w' w.heap.size (fun k_ => some k_ ≠ (v313 : Value).ownBlock ∧ some k_ ≠ ((.slice Ao15 t305.length co15) : Value).ownBlock ∧ k_ ≠ gb311) (.slice Ao16 t308.length co16) t308) ∧ Aside0 (Kd.R k63 63 w' w.heap.size (fun k_ => some k_ ≠ ((.slice Ao15 t305.length co15) : Value).ownBlock) v313 t312) ∧ Aside0 (Kd.R k63 63 w' w.heap.size (fun k_ => some k_ ≠ (v313 : Value).ownBlock) (.slice Ao15 t305.length co15) t305) ∧ Aside0 (w'.heap[gb311]? = some (.cells #[.int .i64 t304, (.slice Ao15 t305.length co15)] 54 (0, 0))) ∧ Aside0 (Below w.heap.size w w'))
    case atStart => exact ⟨(t319), (0), (by first | rfl | (simp; done) | (simp [*]; done)), (by first | rfl | (simp; done) | (simp [*]; done)), H', ⟨Nat.le_refl _⟩, ⟨by (with_reducible repeat (first | apply Kd.V_alloc | apply Kd.V_drewN | apply Kd.V_drew)); exact Kd.V_mono HO310.out (fun _ hk => ⟨hk.2, ⟨hk.1.1, hk.1.2⟩⟩)⟩, ⟨by (with_reducible repeat (first | apply Kd.R_alloc | apply Kd.R_drewN | apply Kd.R_drew)); exact Kd.R_mono HO314.out (fun _ hk => hk.2)⟩, ⟨by (with_reducible repeat (first | apply Kd.R_alloc | apply Kd.R_drewN | apply Kd.R_drew)); exact Kd.R_mono HO307.out (fun _ hk => hk.2)⟩, ⟨bk_ BK311⟩, ⟨bw1_ HB GE311.out⟩⟩
    case round =>
     clear H'
     (try clear c1); (try clear c2); (try clear p2); (try clear c3); (try clear c6); (try clear c8); (try clear c8b0); (try clear c8b1); (try clear c8b2); (try clear c10); (try clear c16); (try clear hcz14_0); (try clear hcz14_1); (try clear hcz20_0); (try clear hcz20_1); (try clear hfz14_0); (try clear hfz14_1); (try clear hfz20_0); (try clear hfz20_1)
     obtain ⟨x6_1, x7_1, rfl, rfl, HA, HK1, HO_4, HO_5, HO_312001, BK311, HB⟩ := hrel
     cases gk with
     | zero => exact absurd HA.out (by simp [laws_FnMaps.l0])
     | succ k1 =>
      have H := HA.out
      clear HA
      simp only [laws_FnMaps.l0] at H
      by_cases c22 : x7_1 < (t312.length : Int)
      ·rw [if_pos c22] at H
       have c22b0 : decide (x7_1 < (t312.length : Int)) = true := decide_eq_true c22
       clear c22
       have H' := Aside0.mk H
       clear H
       obtain ⟨Ao23, co23, eo23⟩ := Kd.R_slice HO_5.out
       subst eo23
       go_wp2
       go_loopg [8, 9] k1 (fun kq v8 v9 w' => ∃ (x8_2 : Bool) (x9_2 : Int), v8 = .bool x8_2 ∧ v9 = .int .i64 x9_2 ∧ Aside0 (laws_FnMaps.l1 kq t308 t312 x6_1 x7_1 x8_2 x9_2 t304 t305 = some r) ∧ Aside0 (kq ≤ k1) ∧ Aside0 (Kd.V k61 61 w' w.heap.size (fun k_ => some k_ ≠ ((.slice Ao23 t312.length co23) : Value).ownBlock ∧ some k_ ≠ ((.slice Ao15 t305.length co15) : Value).ownBlock ∧ k_ ≠ gb311) (.slice Ao16 t308.length co16) t308) ∧ Aside0 (Kd.R k63 63 w' w.heap.size (fun k_ => some k_ ≠ ((.slice Ao15 t305.length co15) : Value).ownBlock) (.slice Ao23 t312.length co23) t312) ∧ Aside0 (Kd.R k63 63 w' w.heap.size (fun k_ => some k_ ≠ ((.slice Ao23 t312.length co23) : Value).ownBlock) (.slice Ao15 t305.length co15) t305) ∧ Aside0 (w'.heap[gb311]? = some (.cells #[.int .i64 t304, (.slice Ao15 t305.length co15)] 54 (0, 0))) ∧ Aside0 (Below w.heap.size w w'))
       case atStart => exact ⟨(false), (0), (by first | rfl | (simp; done) | (simp [*]; done)), (by first | rfl | (simp; done) | (simp [*]; done)), H', ⟨Nat.le_refl _⟩, ⟨kv_ HO_4⟩, ⟨kr_ HO_5⟩, ⟨kr_ HO_312001⟩, ⟨bk_ BK311⟩, ⟨bw1_ HB GE311.out⟩⟩
       case round =>
        clear H'
        (try clear c1); (try clear c2); (try clear p2); (try clear c3); (try clear c6); (try clear c8); (try clear c8b0); (try clear c8b1); (try clear c8b2); (try clear c10); (try clear c16); (try clear c22); (try clear c22b0); (try clear hcz14_0); (try clear hcz14_1); (try clear hcz20_0); (try clear hcz20_1); (try clear hfz14_0); (try clear hfz14_1); (try clear hfz20_0); (try clear hfz20_1); (try clear p2)
        obtain ⟨x8_2, x9_2, rfl, rfl, HA, HK2, HO_4, HO_5, HO_312001, BK311, HB⟩ := hrel
        cases gk with
        | zero => exact absurd HA.out (by simp [laws_FnMaps.l1])
        | succ k2 =>
         have H := HA.out
         clear HA
         simp only [laws_FnMaps.l1] at H
         by_cases c24 : x9_2 < (t308.length : Int)
         ·rw [if_pos c24] at H
          have c24b0 : decide (x9_2 < (t308.length : Int)) = true := decide_eq_true c24
          clear c24
          by_cases c25 : 0 ≤ x9_2
          ·rw [if_pos c25] at H
           have c25b0 : decide (0 ≤ x9_2) = true := decide_eq_true c25
           clear c25
           have H' := Aside0.mk H
           clear H
           have p325 : 0 ≤ (x9_2 : Int) := of_decide_eq_true (by first | (with_reducible assumption) | assumption)
           have q325 : x9_2 < (t308.length : Int) := of_decide_eq_true (by first | (with_reducible assumption) | assumption)
           obtain ⟨ad325, A325_0, c325_0, e325, hx325_0, hl325_0, hi325_0⟩ := at_T61 (Kd.V_reads' HO_4.out).2.2 x9_2 p325 q325
           cases e325
           obtain ⟨ce325, hce325, hMe325, hcc325⟩ := Kd.V_get HO_4.out z61 x9_2 p325 (by first | exact q325 | exact of_decide_eq_true (by first | (with_reducible assumption) | assumption) | (have e_ := (Kd.V_reads' HO_4.out).1; omega))
           obtain ⟨ua325_0, uc325_0, rfl, ul325_0, ge325_0⟩ := k61_openF hMe325
           have hv325_0 := hcc325 0 _ rfl
           rw [Nat.add_zero, show (k61).sz = 1 from rfl, Nat.mul_one] at hv325_0
           replace hv325_0 := Option.some.inj (hv325_0.symm.trans hx325_0)
           injection hv325_0 with hva_ hvn_ hvc_
           rw [hva_] at ge325_0
           rw [hvc_] at ul325_0
           have HL325_0 := Aside0.mk (show Kd.V (Kd.int .i64) 3 _ w.heap.size _ _ ((rd_T61 t308 x9_2).f0) from Kd.V_mk ul325_0 ge325_0)
           clear hva_ hvn_ hvc_ ge325_0 ul325_0
           clear hcc325 hce325
           have HR325_0 := Aside0.mk hi325_0
           have HC325_0 := Aside0.mk hl325_0
           clear hi325_0 hl325_0
           replace p325 := eq_true p325
           replace q325 := eq_true q325
           go_wp2
           go_loopg [8, 11] k2 (fun kq v8 v11 w' => ∃ (x8_3 : Bool) (x11_3 : Int), v8 = .bool x8_3 ∧ v11 = .int .i64 x11_3 ∧ Aside0 (laws_FnMaps.l2 kq t308 t312 x6_1 x7_1 x8_3 x9_2 ((rd_T61 t308 x9_2).f0) x11_3 t304 t305 = some r) ∧ Aside0 (kq ≤ k2) ∧ Aside0 (Kd.V k61 61 w' w.heap.size (fun k_ => some k_ ≠ ((.slice Ao23 t312.length co23) : Value).ownBlock ∧ some k_ ≠ ((.slice Ao15 t305.length co15) : Value).ownBlock ∧ k_ ≠ gb311) (.slice (some ad325) t308.length co16) t308) ∧ Aside0 (Kd.R k63 63 w' w.heap.size (fun k_ => some k_ ≠ ((.slice Ao15 t305.length co15) : Value).ownBlock) (.slice Ao23 t312.length co23) t312) ∧ Aside0 (Kd.R k63 63 w' w.heap.size (fun k_ => some k_ ≠ ((.slice Ao23 t312.length co23) : Value).ownBlock) (.slice Ao15 t305.length co15) t305) ∧ Aside0 (w'.heap[gb311]? = some (.cells #[.int .i64 t304, (.slice Ao15 t305.length co15)] 54 (0, 0))) ∧ Aside0 (Kd.C (Kd.int .i64) w' A325_0 ((rd_T61 t308 x9_2).f0).length ((rd_T61 t308 x9_2).f0)) ∧ Aside0 (Below w.heap.size w w'))
           case atStart => exact ⟨(x8_2), (1), (by first | rfl | (simp; done) | (simp [*]; done)), (by first | rfl | (simp; done) | (simp [*]; done)), H', ⟨Nat.le_refl _⟩, ⟨kv_ HO_4⟩, ⟨kr_ HO_5⟩, ⟨kr_ HO_312001⟩, ⟨bk_ BK311⟩, ⟨by repeat (first | (with_reducible exact HR325_0.out) | (with_reducible refine Kd.C_alloc ?_ _) | (with_reducible refine Kd.C_drewN ?_ _) | (with_reducible refine Kd.C_drew ?_) | exact HR325_0.out)⟩, ⟨bw1_ HB GE311.out⟩⟩
           case round =>
            clear H'
            (try clear c1); (try clear c2); (try clear p2); (try clear c3); (try clear p3); (try clear q3); (try clear hx3); (try clear c6); (try clear c8); (try clear c8b0); (try clear c8b1); (try clear c8b2); (try clear c10); (try clear c16); (try clear c22); (try clear c22b0); (try clear c24); (try clear c24b0); (try clear c25); (try clear c25b0); (try clear hcz14_0); (try clear hcz14_1); (try clear hcz20_0); (try clear hcz20_1); (try clear hfz14_0); (try clear hfz14_1); (try clear hfz20_0); (try clear hfz20_1); (try clear hx325_0); (try clear p2); (try clear p325); (try clear q325)
            obtain ⟨x8_3, x11_3, rfl, rfl, HA, HK3, HO_4, HO_5, HO_312001, BK311, HR325_0, HB⟩ := hrel
            cases gk with
            | zero => exact absurd HA.out (by simp [laws_FnMaps.l2])
            | succ k3 =>
             have H := HA.out
             clear HA
             simp only [laws_FnMaps.l2] at H
             by_cases c26 : x11_3 < (((rd_T61 t308 x9_2).f0).length : Int)
             ·rw [if_pos c26] at H
              have c26b0 : decide (x11_3 < (((rd_T61 t308 x9_2).f0).length : Int)) = true := decide_eq_true c26
              clear c26
              by_cases c27 : x8_3 = true
              ·subst c27
               have H1 : (laws_FnMaps.l2 k3 t308 t312 x6_1 x7_1 true x9_2 ((rd_T61 t308 x9_2).f0) (wrap64 (x11_3 + 1)) t304 t305) = some r := by rw [if_pos rfl] at H; exact H
               clear H
               have H := H1
               clear H1
               have H' := Aside0.mk H
               clear H
               try go_wp2
               have n0_ := Aside0.mk (Kd.V_drew HO_4.out)
               have n1_ := Aside0.mk (Kd.R_drew HO_5.out)
               have n2_ := Aside0.mk (Kd.R_drew HO_312001.out)
               have n3_ := Aside0.mk (blk_drew BK311.out)
               have n4_ := Aside0.mk (Kd.C_drew HR325_0.out)
               have n5_ := Aside0.mk (below_drew1 HB.out)
               clear HO_4
               clear HO_5
               clear HO_312001
               clear BK311
               clear HR325_0
               clear HB
               have HO_4 := n0_
               have HO_5 := n1_
               have HO_312001 := n2_
               have BK311 := n3_
               have HR325_0 := n4_
               have HB := n5_
               clear n0_ n1_ n2_ n3_ n4_ n5_
               refine start_ (n := 52) (S := fun w' => True) (ds := []) q0 (by kernel_rfl) rfl rfl trivial (fun hHeld => ?_); refine with_tabW laws_FnMaps.tab21 laws_FnMaps.bits21 (fun HT_ HW_ => ?_)
               generalize wr.drew = w28 at HO_4 HO_5 HO_312001 BK311 HR325_0 HB hHeld ⊢
               refine pv_ 0 65 q1 HT_ ?_; refine pv_ 1 66 q2 HT_ ?_; refine pu_ 2 67 q3 HT_ ?_; refine pu_ 3 68 q4 HT_ ?_; refine pu_ 4 69 q5 HT_ ?_; refine pu_ 5 70 q6 HT_ ?_; refine pu_ 6 71 q7 HT_ ?_; refine pu_ 7 72 q8 HT_ ?_; refine pu_ 8 73 q9 HT_ ?_; refine pu_ 9 74 q10 HT_ ?_; refine pu_ 10 75 q11 HT_ ?_; refine pu_ 11 76 q12 HT_ ?_; refine pu_ 12 77 q13 HT_ ?_; refine pu_ 13 78 q14 HT_ ?_; refine pu_ 14 79 q15 HT_ ?_; refine pu_ 15 80 q16 HT_ ?_; refine pu_ 16 81 q17 HT_ ?_; refine pu_ 17 82 q18 HT_ ?_; refine pu_ 18 83 q19 HT_ ?_; refine pu_ 19 84 q20 HT_ ?_; refine pu_ 20 85 q21 HT_ ?_; refine pu_ 21 86 q22 HT_ ?_; refine pu_ 22 87 q23 HT_ ?_; refine pu_ 23 88 q24 HT_ ?_; refine pu_ 24 89 q25 HT_ ?_; refine pv_ 25 90 q26 HT_ ?_; refine pv_ 26 91 q27 HT_ ?_; refine pu_ 27 92 q28 HT_ ?_; refine pu_ 28 93 q29 HT_ ?_; refine pu_ 29 94 q30 HT_ ?_; refine pu_ 30 95 q31 HT_ ?_; refine pu_ 31 96 q32 HT_ ?_; refine pu_ 32 97 q33 HT_ ?_; refine pu_ 33 98 q34 HT_ ?_; refine pu_ 34 99 q35 HT_ ?_; refine pu_ 35 100 q36 HT_ ?_; refine pu_ 36 101 q37 HT_ ?_; refine pu_ 37 102 q38 HT_ ?_; refine pu_ 38 103 q39 HT_ ?_; refine pu_ 39 104 q40 HT_ ?_; refine pu_ 40 105 q41 HT_ ?_; refine pu_ 41 106 q42 HT_ ?_; refine pu_ 42 107 q43 HT_ ?_; refine pu_ 43 108 q44 HT_ ?_; refine pu_ 44 109 q45 HT_ ?_; refine pu_ 45 110 q46 HT_ ?_; refine pu_ 46 111 q47 HT_ ?_; refine pu_ 47 112 q48 HT_ ?_; refine pu_ 48 113 q49 HT_ ?_; refine pu_ 49 114 q50 HT_ ?_; refine pv_ 50 115 q51 HT_ ?_; refine pv_ 51 8 q52 HT_ ?_
               refine done_ (done_of HT_.out (by kernel_rfl)) ?_
               try go_wp2
               go_roundg k3
               case measure => have := HK1.out; have := HK2.out; have := HK3.out; omega
               case rel => exact ⟨(true), (wrap64 (x11_3 + 1)), (by first | rfl | (simp; done) | (simp [*]; done)), (by first | rfl | (simp; done) | (simp [*]; done)), H', ⟨by have := HK1.out; have := HK2.out; have := HK3.out; omega⟩, ⟨kv_ HO_4⟩, ⟨kr_ HO_5⟩, ⟨kr_ HO_312001⟩, ⟨bk_ BK311⟩, ⟨by repeat (first | (with_reducible exact HR325_0.out) | (with_reducible refine Kd.C_alloc ?_ _) | (with_reducible refine Kd.C_drewN ?_ _) | (with_reducible refine Kd.C_drew ?_) | exact HR325_0.out)⟩, ⟨bw1_ HB GE311.out⟩⟩
              ·replace c27 := Bool.eq_false_iff.mpr c27
               subst c27
               have H1 : (if 0 ≤ (wrap64 (x11_3 - 1)) then (if (wrap64 (x11_3 - 1)) < (((rd_T61 t308 x9_2).f0).length : Int) then (if 0 ≤ x7_1 then (if x7_1 < (t312.length : Int) then (if (rd ((rd_T61 t308 x9_2).f0) (wrap64 (x11_3 - 1))) = ((rd_T63 t312 x7_1).f0) then (if 0 ≤ x11_3 then (if (rd ((rd_T61 t308 x9_2).f0) x11_3) = ((rd_T63 t312 x7_1).f1) then (laws_FnMaps.l2 k3 t308 t312 x6_1 x7_1 true x9_2 ((rd_T61 t308 x9_2).f0) (wrap64 (x11_3 + 1)) t304 t305) else (if (rd ((rd_T61 t308 x9_2).f0) (wrap64 (x11_3 - 1))) = ((rd_T63 t312 x7_1).f1) then (laws_FnMaps.l2 k3 t308 t312 x6_1 x7_1 ((rd ((rd_T61 t308 x9_2).f0) x11_3) == ((rd_T63 t312 x7_1).f0)) x9_2 ((rd_T61 t308 x9_2).f0) (wrap64 (x11_3 + 1)) t304 t305) else (laws_FnMaps.l2 k3 t308 t312 x6_1 x7_1 false x9_2 ((rd_T61 t308 x9_2).f0) (wrap64 (x11_3 + 1)) t304 t305))) else (none)) else (if (rd ((rd_T61 t308 x9_2).f0) (wrap64 (x11_3 - 1))) = ((rd_T63 t312 x7_1).f1) then (if 0 ≤ x11_3 then (laws_FnMaps.l2 k3 t308 t312 x6_1 x7_1 ((rd ((rd_T61 t308 x9_2).f0) x11_3) == ((rd_T63 t312 x7_1).f0)) x9_2 ((rd_T61 t308 x9_2).f0) (wrap64 (x11_3 + 1)) t304 t305) else (none)) else (laws_FnMaps.l2 k3 t308 t312 x6_1 x7_1 false x9_2 ((rd_T61 t308 x9_2).f0) (wrap64 (x11_3 + 1)) t304 t305))) else (none)) else (none)) else (none)) else (none)) = some r := by rw [if_neg (show ¬ (false = true) by decide)] at H; exact H
               clear H
               have H := H1
               clear H1
               obtain ⟨ji29, hji29⟩ : ∃ j_ : Int, (wrap64 (x11_3 - 1)) = j_ := ⟨_, rfl⟩
               replace H : (if 0 ≤ (ji29) then (if (ji29) < (((rd_T61 t308 x9_2).f0).length : Int) then (if 0 ≤ x7_1 then (if x7_1 < (t312.length : Int) then (if (rd ((rd_T61 t308 x9_2).f0) (ji29)) = ((rd_T63 t312 x7_1).f0) then (if 0 ≤ x11_3 then (if (rd ((rd_T61 t308 x9_2).f0) x11_3) = ((rd_T63 t312 x7_1).f1) then (laws_FnMaps.l2 k3 t308 t312 x6_1 x7_1 true x9_2 ((rd_T61 t308 x9_2).f0) (wrap64 (x11_3 + 1)) t304 t305) else (if (rd ((rd_T61 t308 x9_2).f0) (ji29)) = ((rd_T63 t312 x7_1).f1) then (laws_FnMaps.l2 k3 t308 t312 x6_1 x7_1 ((rd ((rd_T61 t308 x9_2).f0) x11_3) == ((rd_T63 t312 x7_1).f0)) x9_2 ((rd_T61 t308 x9_2).f0) (wrap64 (x11_3 + 1)) t304 t305) else (laws_FnMaps.l2 k3 t308 t312 x6_1 x7_1 false x9_2 ((rd_T61 t308 x9_2).f0) (wrap64 (x11_3 + 1)) t304 t305))) else (none)) else (if (rd ((rd_T61 t308 x9_2).f0) (ji29)) = ((rd_T63 t312 x7_1).f1) then (if 0 ≤ x11_3 then (laws_FnMaps.l2 k3 t308 t312 x6_1 x7_1 ((rd ((rd_T61 t308 x9_2).f0) x11_3) == ((rd_T63 t312 x7_1).f0)) x9_2 ((rd_T61 t308 x9_2).f0) (wrap64 (x11_3 + 1)) t304 t305) else (none)) else (laws_FnMaps.l2 k3 t308 t312 x6_1 x7_1 false x9_2 ((rd_T61 t308 x9_2).f0) (wrap64 (x11_3 + 1)) t304 t305))) else (none)) else (none)) else (none)) else (none)) = some r := by first | (rw [hji29] at H; exact H) | (simp only [hji29] at H ⊢; exact H)
               have hji29w : (IntKind.i64.wrap (x11_3 - 1)) = ji29 := (i64_w _).trans hji29
               by_cases c30 : 0 ≤ (ji29)
               ·rw [if_pos c30] at H
                have c30b0 : decide (0 ≤ (ji29)) = true := decide_eq_true c30
                clear c30
                by_cases c31 : (ji29) < (((rd_T61 t308 x9_2).f0).length : Int)
                ·rw [if_pos c31] at H
                 have c31b0 : decide ((ji29) < (((rd_T61 t308 x9_2).f0).length : Int)) = true := decide_eq_true c31
                 clear c31
                 by_cases c32 : 0 ≤ x7_1
                 ·rw [if_pos c32] at H
                  have c32b0 : decide (0 ≤ x7_1) = true := decide_eq_true c32
                  clear c32
                  by_cases c33 : x7_1 < (t312.length : Int)
                  ·rw [if_pos c33] at H
                   have c33b0 : decide (x7_1 < (t312.length : Int)) = true := decide_eq_true c33
                   clear c33
                   by_cases c34 : (rd ((rd_T61 t308 x9_2).f0) (ji29)) = ((rd_T63 t312 x7_1).f0)
                   ·rw [if_pos c34] at H
                    have c34b0 : ((rd ((rd_T61 t308 x9_2).f0) (ji29)) == ((rd_T63 t312 x7_1).f0)) = true := beq_iff_eq.mpr c34
                    have c34b1 : ((rd ((rd_T61 t308 x9_2).f0) (ji29)) != ((rd_T63 t312 x7_1).f0)) = false := bne_eq_false_iff_eq.mpr c34
                    clear c34
                    by_cases c35 : 0 ≤ x11_3
                    ·rw [if_pos c35] at H
                     have c35b0 : decide (0 ≤ x11_3) = true := decide_eq_true c35
                     clear c35
                     by_cases c36 : (rd ((rd_T61 t308 x9_2).f0) x11_3) = ((rd_T63 t312 x7_1).f1)
                     ·rw [if_pos c36] at H
                      have c36b0 : ((rd ((rd_T61 t308 x9_2).f0) x11_3) == ((rd_T63 t312 x7_1).f1)) = true := beq_iff_eq.mpr c36
                      have c36b1 : ((rd ((rd_T61 t308 x9_2).f0) x11_3) != ((rd_T63 t312 x7_1).f1)) = false := bne_eq_false_iff_eq.mpr c36
                      clear c36
                      have H' := Aside0.mk H
                      clear H
                      try go_wp2
                      have n0_ := Aside0.mk (Kd.V_drew HO_4.out)
                      have n1_ := Aside0.mk (Kd.R_drew HO_5.out)
                      have n2_ := Aside0.mk (Kd.R_drew HO_312001.out)
                      have n3_ := Aside0.mk (blk_drew BK311.out)
                      have n4_ := Aside0.mk (Kd.C_drew HR325_0.out)
                      have n5_ := Aside0.mk (below_drew1 HB.out)
                      clear HO_4
                      clear HO_5
                      clear HO_312001
                      clear BK311
                      clear HR325_0
                      clear HB
                      have HO_4 := n0_
                      have HO_5 := n1_
                      have HO_312001 := n2_
                      have BK311 := n3_
                      have HR325_0 := n4_
                      have HB := n5_
                      clear n0_ n1_ n2_ n3_ n4_ n5_
                      have p326 : 0 ≤ ((ji29) : Int) := of_decide_eq_true (by first | (with_reducible assumption) | assumption)
                      have q326 : (ji29) < (((rd_T61 t308 x9_2).f0).length : Int) := of_decide_eq_true (by first | (with_reducible assumption) | assumption)
                      obtain ⟨ad326, e326, hx326_0⟩ := Kd.at_int HR325_0.out (ji29) p326 q326
                      cases e326
                      replace p326 := eq_true p326
                      replace q326 := eq_true q326
                      have p327 : 0 ≤ (x7_1 : Int) := of_decide_eq_true (by first | (with_reducible assumption) | assumption)
                      have q327 : x7_1 < (t312.length : Int) := of_decide_eq_true (by first | (with_reducible assumption) | assumption)
                      obtain ⟨ad327, e327, hx327_0, hx327_1⟩ := at_T63 (Kd.R_reads' HO_5.out).2.2 x7_1 p327 q327
                      cases e327
                      replace p327 := eq_true p327
                      replace q327 := eq_true q327
                      have p328 : 0 ≤ (x11_3 : Int) := of_decide_eq_true (by first | (with_reducible assumption) | assumption)
                      have q328 : x11_3 < (((rd_T61 t308 x9_2).f0).length : Int) := of_decide_eq_true (by first | (with_reducible assumption) | assumption)
                      obtain ⟨ad328, e328, hx328_0⟩ := Kd.at_int HR325_0.out x11_3 p328 q328
                      obtain rfl : ad326 = ad328 := (by injection e328)
                      replace p328 := eq_true p328
                      replace q328 := eq_true q328
                      have p329 : 0 ≤ (x7_1 : Int) := of_decide_eq_true (by first | (with_reducible assumption) | assumption)
                      have q329 : x7_1 < (t312.length : Int) := of_decide_eq_true (by first | (with_reducible assumption) | assumption)
                      obtain ⟨ad329, e329, hx329_0, hx329_1⟩ := at_T63 (Kd.R_reads' HO_5.out).2.2 x7_1 p329 q329
                      obtain rfl : ad327 = ad329 := (by injection e329)
                      replace p329 := eq_true p329
                      replace q329 := eq_true q329
                      refine start_ (n := 52) (S := fun w' => w'.cell? (ad326.add ((ji29)).toNat) = some (.int .i64 (rd ((rd_T61 t308 x9_2).f0) (ji29))) ∧ w'.cell? (ad327.add ((x7_1).toNat * 2)) = some (.int .i64 ((rd_T63 t312 x7_1).f0)) ∧ w'.cell? ⟨(ad327.add ((x7_1).toNat * 2)).block, (ad327.add ((x7_1).toNat * 2)).off + 1, none⟩ = some (.int .i64 ((rd_T63 t312 x7_1).f1)) ∧ w'.cell? (ad326.add (x11_3).toNat) = some (.int .i64 (rd ((rd_T61 t308 x9_2).f0) x11_3)) ∧ w'.cell? (ad327.add ((x7_1).toNat * 2)) = some (.int .i64 ((rd_T63 t312 x7_1).f0)) ∧ w'.cell? ⟨(ad327.add ((x7_1).toNat * 2)).block, (ad327.add ((x7_1).toNat * 2)).off + 1, none⟩ = some (.int .i64 ((rd_T63 t312 x7_1).f1))) (ds := []) q0 (by kernel_rfl) rfl rfl ⟨hx326_0, hx327_0, hx327_1, hx328_0, hx329_0, hx329_1⟩ (fun hHeld => ?_); refine with_tabW laws_FnMaps.tab21 laws_FnMaps.bits21 (fun HT_ HW_ => ?_)
                      generalize wr.drew = w37 at HO_4 HO_5 HO_312001 BK311 HR325_0 HB hx326_0 hx327_0 hx327_1 hx328_0 hx329_0 hx329_1 hHeld ⊢
                      refine pv_ 0 65 q1 HT_ ?_; refine pv_ 1 66 q2 HT_ ?_; refine pv_ 2 67 q3 HT_ ?_; refine pv_ 3 68 q4 HT_ ?_; refine pv_ 4 69 q5 HT_ ?_; refine pv_ 5 70 q6 HT_ ?_; refine pv_ 7 72 q53 HT_ ?_; refine pv_ 8 73 q54 HT_ ?_; refine pv_ 9 74 q55 HT_ ?_; refine pv_ 10 75 q56 HT_ ?_
                      refine take_ (i := 6) (N := some 71) (v := ?_) (a' := ?_) q11 rfl rfl (take_ofW HT_.out HW_.out (by kernel_rfl)) (fun _ _ _ h => h) (Or.inl ⟨by rfl, ?_⟩) hHeld ?_ ?_
                      rotate_left; · rintro w' ⟨s0, s1, s2, s3, s4, s5⟩; go_simp; with_reducible rfl
                      rotate_left; · simp only [Act.put, qA, qZ, qS, i64_w, i32_w]; rfl
                      refine take_ (i := 11) (N := some 76) (v := ?_) (a' := ?_) q12 rfl rfl (take_ofW HT_.out HW_.out (by kernel_rfl)) (fun _ _ _ h => h) (Or.inl ⟨by rfl, ?_⟩) hHeld ?_ ?_
                      rotate_left; · rintro w' ⟨s0, s1, s2, s3, s4, s5⟩; go_simp; with_reducible rfl
                      rotate_left; · simp only [Act.put, qA, qZ, qS, i64_w, i32_w]; rfl
                      refine pv_ 12 77 q13 HT_ ?_; refine pv_ 13 78 q14 HT_ ?_; refine pv_ 14 79 q15 HT_ ?_; refine pv_ 15 80 q16 HT_ ?_; refine pv_ 16 81 q17 HT_ ?_; refine pv_ 18 83 q57 HT_ ?_; refine pv_ 19 84 q58 HT_ ?_; refine pv_ 20 85 q59 HT_ ?_; refine pv_ 21 86 q60 HT_ ?_
                      refine take_ (i := 17) (N := some 82) (v := ?_) (a' := ?_) q22 rfl rfl (take_ofW HT_.out HW_.out (by kernel_rfl)) (fun _ _ _ h => h) (Or.inl ⟨by rfl, ?_⟩) hHeld ?_ ?_
                      rotate_left; · rintro w' ⟨s0, s1, s2, s3, s4, s5⟩; go_simp; with_reducible rfl
                      rotate_left; · simp only [Act.put, qA, qZ, qS, i64_w, i32_w]; rfl
                      refine take_ (i := 22) (N := some 87) (v := ?_) (a' := ?_) q23 rfl rfl (take_ofW HT_.out HW_.out (by kernel_rfl)) (fun _ _ _ h => h) (Or.inl ⟨by rfl, ?_⟩) hHeld ?_ ?_
                      rotate_left; · rintro w' ⟨s0, s1, s2, s3, s4, s5⟩; go_simp; with_reducible rfl
                      rotate_left; · simp only [Act.put, qA, qZ, qS, i64_w, i32_w]; rfl
                      refine pv_ 23 88 q24 HT_ ?_; refine pv_ 24 89 q25 HT_ ?_; refine pv_ 25 90 q26 HT_ ?_; refine pv_ 26 91 q27 HT_ ?_; refine pu_ 27 92 q28 HT_ ?_; refine pu_ 28 93 q29 HT_ ?_; refine pu_ 29 94 q30 HT_ ?_; refine pu_ 30 95 q31 HT_ ?_; refine pu_ 31 96 q32 HT_ ?_; refine pu_ 32 97 q33 HT_ ?_; refine pu_ 33 98 q34 HT_ ?_; refine pu_ 34 99 q35 HT_ ?_; refine pu_ 35 100 q36 HT_ ?_; refine pu_ 36 101 q37 HT_ ?_; refine pu_ 37 102 q38 HT_ ?_; refine pu_ 38 103 q39 HT_ ?_; refine pu_ 39 104 q40 HT_ ?_; refine pu_ 40 105 q41 HT_ ?_; refine pu_ 41 106 q42 HT_ ?_; refine pu_ 42 107 q43 HT_ ?_; refine pu_ 43 108 q44 HT_ ?_; refine pu_ 44 109 q45 HT_ ?_; refine pu_ 45 110 q46 HT_ ?_; refine pu_ 46 111 q47 HT_ ?_; refine pu_ 47 112 q48 HT_ ?_; refine pu_ 48 113 q49 HT_ ?_; refine pu_ 49 114 q50 HT_ ?_; refine pv_ 50 115 q51 HT_ ?_; refine pv_ 51 8 q52 HT_ ?_
                      refine done_ (done_of HT_.out (by kernel_rfl)) ?_
                      try go_wp2
                      go_roundg k3
                      case measure => have := HK1.out; have := HK2.out; have := HK3.out; omega
                      case rel => exact ⟨(true), (wrap64 (x11_3 + 1)), (by first | rfl | (simp; done) | (simp [*]; done)), (by first | rfl | (simp; done) | (simp [*]; done)), H', ⟨by have := HK1.out; have := HK2.out; have := HK3.out; omega⟩, ⟨kv_ HO_4⟩, ⟨kr_ HO_5⟩, ⟨kr_ HO_312001⟩, ⟨bk_ BK311⟩, ⟨by repeat (first | (with_reducible exact HR325_0.out) | (with_reducible refine Kd.C_alloc ?_ _) | (with_reducible refine Kd.C_drewN ?_ _) | (with_reducible refine Kd.C_drew ?_) | exact HR325_0.out)⟩, ⟨bw1_ HB GE311.out⟩⟩
                     ·rw [if_neg c36] at H
                      have c36b0 : ((rd ((rd_T61 t308 x9_2).f0) x11_3) == ((rd_T63 t312 x7_1).f1)) = false := beq_eq_false_iff_ne.mpr c36
                      have c36b1 : ((rd ((rd_T61 t308 x9_2).f0) x11_3) != ((rd_T63 t312 x7_1).f1)) = true := bne_iff_ne.mpr c36
                      by_cases c38 : (rd ((rd_T61 t308 x9_2).f0) (ji29)) = ((rd_T63 t312 x7_1).f1)
                      ·rw [if_pos c38] at H
                       have c38b0 : ((rd ((rd_T61 t308 x9_2).f0) (ji29)) == ((rd_T63 t312 x7_1).f1)) = true := beq_iff_eq.mpr c38
                       have c38b1 : ((rd ((rd_T61 t308 x9_2).f0) (ji29)) != ((rd_T63 t312 x7_1).f1)) = false := bne_eq_false_iff_eq.mpr c38
                       clear c38
                       have H' := Aside0.mk H
                       clear H
                       try go_wp2
                       have n0_ := Aside0.mk (Kd.V_drew HO_4.out)
                       have n1_ := Aside0.mk (Kd.R_drew HO_5.out)
                       have n2_ := Aside0.mk (Kd.R_drew HO_312001.out)
                       have n3_ := Aside0.mk (blk_drew BK311.out)
                       have n4_ := Aside0.mk (Kd.C_drew HR325_0.out)
                       have n5_ := Aside0.mk (below_drew1 HB.out)
                       clear HO_4
                       clear HO_5
                       clear HO_312001
                       clear BK311
                       clear HR325_0
                       clear HB
                       have HO_4 := n0_
                       have HO_5 := n1_
                       have HO_312001 := n2_
                       have BK311 := n3_
                       have HR325_0 := n4_
                       have HB := n5_
                       clear n0_ n1_ n2_ n3_ n4_ n5_
                       have p326 : 0 ≤ ((ji29) : Int) := of_decide_eq_true (by first | (with_reducible assumption) | assumption)
                       have q326 : (ji29) < (((rd_T61 t308 x9_2).f0).length : Int) := of_decide_eq_true (by first | (with_reducible assumption) | assumption)
                       obtain ⟨ad326, e326, hx326_0⟩ := Kd.at_int HR325_0.out (ji29) p326 q326
                       cases e326
                       replace p326 := eq_true p326
                       replace q326 := eq_true q326
                       have p327 : 0 ≤ (x7_1 : Int) := of_decide_eq_true (by first | (with_reducible assumption) | assumption)
                       have q327 : x7_1 < (t312.length : Int) := of_decide_eq_true (by first | (with_reducible assumption) | assumption)
                       obtain ⟨ad327, e327, hx327_0, hx327_1⟩ := at_T63 (Kd.R_reads' HO_5.out).2.2 x7_1 p327 q327
                       cases e327
                       replace p327 := eq_true p327
                       replace q327 := eq_true q327
                       have p328 : 0 ≤ (x11_3 : Int) := of_decide_eq_true (by first | (with_reducible assumption) | assumption)
                       have q328 : x11_3 < (((rd_T61 t308 x9_2).f0).length : Int) := of_decide_eq_true (by first | (with_reducible assumption) | assumption)
                       obtain ⟨ad328, e328, hx328_0⟩ := Kd.at_int HR325_0.out x11_3 p328 q328
                       obtain rfl : ad326 = ad328 := (by injection e328)
                       replace p328 := eq_true p328
                       replace q328 := eq_true q328
                       have p329 : 0 ≤ (x7_1 : Int) := of_decide_eq_true (by first | (with_reducible assumption) | assumption)
                       have q329 : x7_1 < (t312.length : Int) := of_decide_eq_true (by first | (with_reducible assumption) | assumption)
                       obtain ⟨ad329, e329, hx329_0, hx329_1⟩ := at_T63 (Kd.R_reads' HO_5.out).2.2 x7_1 p329 q329
                       obtain rfl : ad327 = ad329 := (by injection e329)
                       replace p329 := eq_true p329
                       replace q329 := eq_true q329
                       have p330 : 0 ≤ ((ji29) : Int) := of_decide_eq_true (by first | (with_reducible assumption) | assumption)
                       have q330 : (ji29) < (((rd_T61 t308 x9_2).f0).length : Int) := of_decide_eq_true (by first | (with_reducible assumption) | assumption)
                       obtain ⟨ad330, e330, hx330_0⟩ := Kd.at_int HR325_0.out (ji29) p330 q330
                       obtain rfl : ad326 = ad330 := (by injection e330)
                       replace p330 := eq_true p330
                       replace q330 := eq_true q330
                       have p331 : 0 ≤ (x7_1 : Int) := of_decide_eq_true (by first | (with_reducible assumption) | assumption)
                       have q331 : x7_1 < (t312.length : Int) := of_decide_eq_true (by first | (with_reducible assumption) | assumption)
                       obtain ⟨ad331, e331, hx331_0, hx331_1⟩ := at_T63 (Kd.R_reads' HO_5.out).2.2 x7_1 p331 q331
                       obtain rfl : ad327 = ad331 := (by injection e331)
                       replace p331 := eq_true p331
                       replace q331 := eq_true q331
                       have p332 : 0 ≤ (x11_3 : Int) := of_decide_eq_true (by first | (with_reducible assumption) | assumption)
                       have q332 : x11_3 < (((rd_T61 t308 x9_2).f0).length : Int) := of_decide_eq_true (by first | (with_reducible assumption) | assumption)
                       obtain ⟨ad332, e332, hx332_0⟩ := Kd.at_int HR325_0.out x11_3 p332 q332
                       obtain rfl : ad326 = ad332 := (by injection e332)
                       replace p332 := eq_true p332
                       replace q332 := eq_true q332
                       have p333 : 0 ≤ (x7_1 : Int) := of_decide_eq_true (by first | (with_reducible assumption) | assumption)
                       have q333 : x7_1 < (t312.length : Int) := of_decide_eq_true (by first | (with_reducible assumption) | assumption)
                       obtain ⟨ad333, e333, hx333_0, hx333_1⟩ := at_T63 (Kd.R_reads' HO_5.out).2.2 x7_1 p333 q333
                       obtain rfl : ad327 = ad333 := (by injection e333)
                       replace p333 := eq_true p333
                       replace q333 := eq_true q333
                       refine start_ (n := 52) (S := fun w' => w'.cell? (ad326.add ((ji29)).toNat) = some (.int .i64 (rd ((rd_T61 t308 x9_2).f0) (ji29))) ∧ w'.cell? (ad327.add ((x7_1).toNat * 2)) = some (.int .i64 ((rd_T63 t312 x7_1).f0)) ∧ w'.cell? ⟨(ad327.add ((x7_1).toNat * 2)).block, (ad327.add ((x7_1).toNat * 2)).off + 1, none⟩ = some (.int .i64 ((rd_T63 t312 x7_1).f1)) ∧ w'.cell? (ad326.add (x11_3).toNat) = some (.int .i64 (rd ((rd_T61 t308 x9_2).f0) x11_3)) ∧ w'.cell? (ad327.add ((x7_1).toNat * 2)) = some (.int .i64 ((rd_T63 t312 x7_1).f0)) ∧ w'.cell? ⟨(ad327.add ((x7_1).toNat * 2)).block, (ad327.add ((x7_1).toNat * 2)).off + 1, none⟩ = some (.int .i64 ((rd_T63 t312 x7_1).f1)) ∧ w'.cell? (ad326.add ((ji29)).toNat) = some (.int .i64 (rd ((rd_T61 t308 x9_2).f0) (ji29))) ∧ w'.cell? (ad327.add ((x7_1).toNat * 2)) = some (.int .i64 ((rd_T63 t312 x7_1).f0)) ∧ w'.cell? ⟨(ad327.add ((x7_1).toNat * 2)).block, (ad327.add ((x7_1).toNat * 2)).off + 1, none⟩ = some (.int .i64 ((rd_T63 t312 x7_1).f1)) ∧ w'.cell? (ad326.add (x11_3).toNat) = some (.int .i64 (rd ((rd_T61 t308 x9_2).f0) x11_3)) ∧ w'.cell? (ad327.add ((x7_1).toNat * 2)) = some (.int .i64 ((rd_T63 t312 x7_1).f0)) ∧ w'.cell? ⟨(ad327.add ((x7_1).toNat * 2)).block, (ad327.add ((x7_1).toNat * 2)).off + 1, none⟩ = some (.int .i64 ((rd_T63 t312 x7_1).f1))) (ds := []) q0 (by kernel_rfl) rfl rfl ⟨hx326_0, hx327_0, hx327_1, hx328_0, hx329_0, hx329_1, hx330_0, hx331_0, hx331_1, hx332_0, hx333_0, hx333_1⟩ (fun hHeld => ?_); refine with_tabW laws_FnMaps.tab21 laws_FnMaps.bits21 (fun HT_ HW_ => ?_)
                       generalize wr.drew = w39 at HO_4 HO_5 HO_312001 BK311 HR325_0 HB hx326_0 hx327_0 hx327_1 hx328_0 hx329_0 hx329_1 hx330_0 hx331_0 hx331_1 hx332_0 hx333_0 hx333_1 hHeld ⊢
                       refine pv_ 0 65 q1 HT_ ?_; refine pv_ 1 66 q2 HT_ ?_; refine pv_ 2 67 q3 HT_ ?_; refine pv_ 3 68 q4 HT_ ?_; refine pv_ 4 69 q5 HT_ ?_; refine pv_ 5 70 q6 HT_ ?_; refine pv_ 7 72 q53 HT_ ?_; refine pv_ 8 73 q54 HT_ ?_; refine pv_ 9 74 q55 HT_ ?_; refine pv_ 10 75 q56 HT_ ?_
                       refine take_ (i := 6) (N := some 71) (v := ?_) (a' := ?_) q11 rfl rfl (take_ofW HT_.out HW_.out (by kernel_rfl)) (fun _ _ _ h => h) (Or.inl ⟨by rfl, ?_⟩) hHeld ?_ ?_
                       rotate_left; · rintro w' ⟨s0, s1, s2, s3, s4, s5, s6, s7, s8, s9, s10, s11⟩; go_simp; with_reducible rfl
                       rotate_left; · simp only [Act.put, qA, qZ, qS, i64_w, i32_w]; rfl
                       refine take_ (i := 11) (N := some 76) (v := ?_) (a' := ?_) q12 rfl rfl (take_ofW HT_.out HW_.out (by kernel_rfl)) (fun _ _ _ h => h) (Or.inl ⟨by rfl, ?_⟩) hHeld ?_ ?_
                       rotate_left; · rintro w' ⟨s0, s1, s2, s3, s4, s5, s6, s7, s8, s9, s10, s11⟩; go_simp; with_reducible rfl
                       rotate_left; · simp only [Act.put, qA, qZ, qS, i64_w, i32_w]; rfl
                       refine pv_ 12 77 q13 HT_ ?_; refine pv_ 13 78 q14 HT_ ?_; refine pv_ 14 79 q15 HT_ ?_; refine pv_ 15 80 q16 HT_ ?_; refine pv_ 16 81 q17 HT_ ?_; refine pv_ 18 83 q57 HT_ ?_; refine pv_ 19 84 q58 HT_ ?_; refine pv_ 20 85 q59 HT_ ?_; refine pv_ 21 86 q60 HT_ ?_
                       refine take_ (i := 17) (N := some 82) (v := ?_) (a' := ?_) q22 rfl rfl (take_ofW HT_.out HW_.out (by kernel_rfl)) (fun _ _ _ h => h) (Or.inl ⟨by rfl, ?_⟩) hHeld ?_ ?_
                       rotate_left; · rintro w' ⟨s0, s1, s2, s3, s4, s5, s6, s7, s8, s9, s10, s11⟩; go_simp; with_reducible rfl
                       rotate_left; · simp only [Act.put, qA, qZ, qS, i64_w, i32_w]; rfl
                       refine take_ (i := 22) (N := some 87) (v := ?_) (a' := ?_) q23 rfl rfl (take_ofW HT_.out HW_.out (by kernel_rfl)) (fun _ _ _ h => h) (Or.inl ⟨by rfl, ?_⟩) hHeld ?_ ?_
                       rotate_left; · rintro w' ⟨s0, s1, s2, s3, s4, s5, s6, s7, s8, s9, s10, s11⟩; go_simp; with_reducible rfl
                       rotate_left; · simp only [Act.put, qA, qZ, qS, i64_w, i32_w]; rfl
                       refine pv_ 23 88 q24 HT_ ?_; refine pv_ 24 89 q25 HT_ ?_; refine pv_ 25 90 q26 HT_ ?_; refine pv_ 26 91 q27 HT_ ?_; refine pv_ 27 92 q28 HT_ ?_; refine pv_ 28 93 q29 HT_ ?_; refine pv_ 29 94 q30 HT_ ?_; refine pv_ 30 95 q31 HT_ ?_; refine pv_ 32 97 q61 HT_ ?_; refine pv_ 33 98 q62 HT_ ?_; refine pv_ 34 99 q63 HT_ ?_; refine pv_ 35 100 q64 HT_ ?_
                       refine take_ (i := 31) (N := some 96) (v := ?_) (a' := ?_) q36 rfl rfl (take_ofW HT_.out HW_.out (by kernel_rfl)) (fun _ _ _ h => h) (Or.inl ⟨by rfl, ?_⟩) hHeld ?_ ?_
                       rotate_left; · rintro w' ⟨s0, s1, s2, s3, s4, s5, s6, s7, s8, s9, s10, s11⟩; go_simp; with_reducible rfl
                       rotate_left; · simp only [Act.put, qA, qZ, qS, i64_w, i32_w]; rfl
                       refine take_ (i := 36) (N := some 101) (v := ?_) (a' := ?_) q37 rfl rfl (take_ofW HT_.out HW_.out (by kernel_rfl)) (fun _ _ _ h => h) (Or.inl ⟨by rfl, ?_⟩) hHeld ?_ ?_
                       rotate_left; · rintro w' ⟨s0, s1, s2, s3, s4, s5, s6, s7, s8, s9, s10, s11⟩; go_simp; with_reducible rfl
                       rotate_left; · simp only [Act.put, qA, qZ, qS, i64_w, i32_w]; rfl
                       refine pv_ 37 102 q38 HT_ ?_; refine pv_ 38 103 q39 HT_ ?_; refine pv_ 39 104 q40 HT_ ?_; refine pv_ 40 105 q41 HT_ ?_; refine pv_ 41 106 q42 HT_ ?_; refine pv_ 43 108 q65 HT_ ?_; refine pv_ 44 109 q66 HT_ ?_; refine pv_ 45 110 q67 HT_ ?_; refine pv_ 46 111 q68 HT_ ?_
                       refine take_ (i := 42) (N := some 107) (v := ?_) (a' := ?_) q47 rfl rfl (take_ofW HT_.out HW_.out (by kernel_rfl)) (fun _ _ _ h => h) (Or.inl ⟨by rfl, ?_⟩) hHeld ?_ ?_
                       rotate_left; · rintro w' ⟨s0, s1, s2, s3, s4, s5, s6, s7, s8, s9, s10, s11⟩; go_simp; with_reducible rfl
                       rotate_left; · simp only [Act.put, qA, qZ, qS, i64_w, i32_w]; rfl
                       refine take_ (i := 47) (N := some 112) (v := ?_) (a' := ?_) q48 rfl rfl (take_ofW HT_.out HW_.out (by kernel_rfl)) (fun _ _ _ h => h) (Or.inl ⟨by rfl, ?_⟩) hHeld ?_ ?_
                       rotate_left; · rintro w' ⟨s0, s1, s2, s3, s4, s5, s6, s7, s8, s9, s10, s11⟩; go_simp; with_reducible rfl
                       rotate_left; · simp only [Act.put, qA, qZ, qS, i64_w, i32_w]; rfl
                       refine pv_ 48 113 q49 HT_ ?_; refine pv_ 49 114 q50 HT_ ?_; refine pv_ 50 115 q51 HT_ ?_; refine pv_ 51 8 q52 HT_ ?_
                       refine done_ (done_of HT_.out (by kernel_rfl)) ?_
                       try go_wp2
                       go_roundg k3
                       case measure => have := HK1.out; have := HK2.out; have := HK3.out; omega
                       case rel => exact ⟨(((rd ((rd_T61 t308 x9_2).f0) x11_3) == ((rd_T63 t312 x7_1).f0))), (wrap64 (x11_3 + 1)), (by first | rfl | (simp; done) | (simp [*]; done)), (by first | rfl | (simp; done) | (simp [*]; done)), H', ⟨by have := HK1.out; have := HK2.out; have := HK3.out; omega⟩, ⟨kv_ HO_4⟩, ⟨kr_ HO_5⟩, ⟨kr_ HO_312001⟩, ⟨bk_ BK311⟩, ⟨by repeat (first | (with_reducible exact HR325_0.out) | (with_reducible refine Kd.C_alloc ?_ _) | (with_reducible refine Kd.C_drewN ?_ _) | (with_reducible refine Kd.C_drew ?_) | exact HR325_0.out)⟩, ⟨bw1_ HB GE311.out⟩⟩
                      ·rw [if_neg c38] at H
                       have c38b0 : ((rd ((rd_T61 t308 x9_2).f0) (ji29)) == ((rd_T63 t312 x7_1).f1)) = false := beq_eq_false_iff_ne.mpr c38
                       have c38b1 : ((rd ((rd_T61 t308 x9_2).f0) (ji29)) != ((rd_T63 t312 x7_1).f1)) = true := bne_iff_ne.mpr c38
                       have H' := Aside0.mk H
                       clear H
                       try go_wp2
                       have n0_ := Aside0.mk (Kd.V_drew HO_4.out)
                       have n1_ := Aside0.mk (Kd.R_drew HO_5.out)
                       have n2_ := Aside0.mk (Kd.R_drew HO_312001.out)
                       have n3_ := Aside0.mk (blk_drew BK311.out)
                       have n4_ := Aside0.mk (Kd.C_drew HR325_0.out)
                       have n5_ := Aside0.mk (below_drew1 HB.out)
                       clear HO_4
                       clear HO_5
                       clear HO_312001
                       clear BK311
                       clear HR325_0
                       clear HB
                       have HO_4 := n0_
                       have HO_5 := n1_
                       have HO_312001 := n2_
                       have BK311 := n3_
                       have HR325_0 := n4_
                       have HB := n5_
                       clear n0_ n1_ n2_ n3_ n4_ n5_
                       have p326 : 0 ≤ ((ji29) : Int) := of_decide_eq_true (by first | (with_reducible assumption) | assumption)
                       have q326 : (ji29) < (((rd_T61 t308 x9_2).f0).length : Int) := of_decide_eq_true (by first | (with_reducible assumption) | assumption)
                       obtain ⟨ad326, e326, hx326_0⟩ := Kd.at_int HR325_0.out (ji29) p326 q326
                       cases e326
                       replace p326 := eq_true p326
                       replace q326 := eq_true q326
                       have p327 : 0 ≤ (x7_1 : Int) := of_decide_eq_true (by first | (with_reducible assumption) | assumption)
                       have q327 : x7_1 < (t312.length : Int) := of_decide_eq_true (by first | (with_reducible assumption) | assumption)
                       obtain ⟨ad327, e327, hx327_0, hx327_1⟩ := at_T63 (Kd.R_reads' HO_5.out).2.2 x7_1 p327 q327
                       cases e327
                       replace p327 := eq_true p327
                       replace q327 := eq_true q327
                       have p328 : 0 ≤ (x11_3 : Int) := of_decide_eq_true (by first | (with_reducible assumption) | assumption)
                       have q328 : x11_3 < (((rd_T61 t308 x9_2).f0).length : Int) := of_decide_eq_true (by first | (with_reducible assumption) | assumption)
                       obtain ⟨ad328, e328, hx328_0⟩ := Kd.at_int HR325_0.out x11_3 p328 q328
                       obtain rfl : ad326 = ad328 := (by injection e328)
                       replace p328 := eq_true p328
                       replace q328 := eq_true q328
                       have p329 : 0 ≤ (x7_1 : Int) := of_decide_eq_true (by first | (with_reducible assumption) | assumption)
                       have q329 : x7_1 < (t312.length : Int) := of_decide_eq_true (by first | (with_reducible assumption) | assumption)
                       obtain ⟨ad329, e329, hx329_0, hx329_1⟩ := at_T63 (Kd.R_reads' HO_5.out).2.2 x7_1 p329 q329
                       obtain rfl : ad327 = ad329 := (by injection e329)
                       replace p329 := eq_true p329
                       replace q329 := eq_true q329
                       have p330 : 0 ≤ ((ji29) : Int) := of_decide_eq_true (by first | (with_reducible assumption) | assumption)
                       have q330 : (ji29) < (((rd_T61 t308 x9_2).f0).length : Int) := of_decide_eq_true (by first | (with_reducible assumption) | assumption)
                       obtain ⟨ad330, e330, hx330_0⟩ := Kd.at_int HR325_0.out (ji29) p330 q330
                       obtain rfl : ad326 = ad330 := (by injection e330)
                       replace p330 := eq_true p330
                       replace q330 := eq_true q330
                       have p331 : 0 ≤ (x7_1 : Int) := of_decide_eq_true (by first | (with_reducible assumption) | assumption)
                       have q331 : x7_1 < (t312.length : Int) := of_decide_eq_true (by first | (with_reducible assumption) | assumption)
                       obtain ⟨ad331, e331, hx331_0, hx331_1⟩ := at_T63 (Kd.R_reads' HO_5.out).2.2 x7_1 p331 q331
                       obtain rfl : ad327 = ad331 := (by injection e331)
                       replace p331 := eq_true p331
                       replace q331 := eq_true q331
                       refine start_ (n := 52) (S := fun w' => w'.cell? (ad326.add ((ji29)).toNat) = some (.int .i64 (rd ((rd_T61 t308 x9_2).f0) (ji29))) ∧ w'.cell? (ad327.add ((x7_1).toNat * 2)) = some (.int .i64 ((rd_T63 t312 x7_1).f0)) ∧ w'.cell? ⟨(ad327.add ((x7_1).toNat * 2)).block, (ad327.add ((x7_1).toNat * 2)).off + 1, none⟩ = some (.int .i64 ((rd_T63 t312 x7_1).f1)) ∧ w'.cell? (ad326.add (x11_3).toNat) = some (.int .i64 (rd ((rd_T61 t308 x9_2).f0) x11_3)) ∧ w'.cell? (ad327.add ((x7_1).toNat * 2)) = some (.int .i64 ((rd_T63 t312 x7_1).f0)) ∧ w'.cell? ⟨(ad327.add ((x7_1).toNat * 2)).block, (ad327.add ((x7_1).toNat * 2)).off + 1, none⟩ = some (.int .i64 ((rd_T63 t312 x7_1).f1)) ∧ w'.cell? (ad326.add ((ji29)).toNat) = some (.int .i64 (rd ((rd_T61 t308 x9_2).f0) (ji29))) ∧ w'.cell? (ad327.add ((x7_1).toNat * 2)) = some (.int .i64 ((rd_T63 t312 x7_1).f0)) ∧ w'.cell? ⟨(ad327.add ((x7_1).toNat * 2)).block, (ad327.add ((x7_1).toNat * 2)).off + 1, none⟩ = some (.int .i64 ((rd_T63 t312 x7_1).f1))) (ds := []) q0 (by kernel_rfl) rfl rfl ⟨hx326_0, hx327_0, hx327_1, hx328_0, hx329_0, hx329_1, hx330_0, hx331_0, hx331_1⟩ (fun hHeld => ?_); refine with_tabW laws_FnMaps.tab21 laws_FnMaps.bits21 (fun HT_ HW_ => ?_)
                       generalize wr.drew = w40 at HO_4 HO_5 HO_312001 BK311 HR325_0 HB hx326_0 hx327_0 hx327_1 hx328_0 hx329_0 hx329_1 hx330_0 hx331_0 hx331_1 hHeld ⊢
                       refine pv_ 0 65 q1 HT_ ?_; refine pv_ 1 66 q2 HT_ ?_; refine pv_ 2 67 q3 HT_ ?_; refine pv_ 3 68 q4 HT_ ?_; refine pv_ 4 69 q5 HT_ ?_; refine pv_ 5 70 q6 HT_ ?_; refine pv_ 7 72 q53 HT_ ?_; refine pv_ 8 73 q54 HT_ ?_; refine pv_ 9 74 q55 HT_ ?_; refine pv_ 10 75 q56 HT_ ?_
                       refine take_ (i := 6) (N := some 71) (v := ?_) (a' := ?_) q11 rfl rfl (take_ofW HT_.out HW_.out (by kernel_rfl)) (fun _ _ _ h => h) (Or.inl ⟨by rfl, ?_⟩) hHeld ?_ ?_
                       rotate_left; · rintro w' ⟨s0, s1, s2, s3, s4, s5, s6, s7, s8⟩; go_simp; with_reducible rfl
                       rotate_left; · simp only [Act.put, qA, qZ, qS, i64_w, i32_w]; rfl
                       refine take_ (i := 11) (N := some 76) (v := ?_) (a' := ?_) q12 rfl rfl (take_ofW HT_.out HW_.out (by kernel_rfl)) (fun _ _ _ h => h) (Or.inl ⟨by rfl, ?_⟩) hHeld ?_ ?_
                       rotate_left; · rintro w' ⟨s0, s1, s2, s3, s4, s5, s6, s7, s8⟩; go_simp; with_reducible rfl
                       rotate_left; · simp only [Act.put, qA, qZ, qS, i64_w, i32_w]; rfl
                       refine pv_ 12 77 q13 HT_ ?_; refine pv_ 13 78 q14 HT_ ?_; refine pv_ 14 79 q15 HT_ ?_; refine pv_ 15 80 q16 HT_ ?_; refine pv_ 16 81 q17 HT_ ?_; refine pv_ 18 83 q57 HT_ ?_; refine pv_ 19 84 q58 HT_ ?_; refine pv_ 20 85 q59 HT_ ?_; refine pv_ 21 86 q60 HT_ ?_
                       refine take_ (i := 17) (N := some 82) (v := ?_) (a' := ?_) q22 rfl rfl (take_ofW HT_.out HW_.out (by kernel_rfl)) (fun _ _ _ h => h) (Or.inl ⟨by rfl, ?_⟩) hHeld ?_ ?_
                       rotate_left; · rintro w' ⟨s0, s1, s2, s3, s4, s5, s6, s7, s8⟩; go_simp; with_reducible rfl
                       rotate_left; · simp only [Act.put, qA, qZ, qS, i64_w, i32_w]; rfl
                       refine take_ (i := 22) (N := some 87) (v := ?_) (a' := ?_) q23 rfl rfl (take_ofW HT_.out HW_.out (by kernel_rfl)) (fun _ _ _ h => h) (Or.inl ⟨by rfl, ?_⟩) hHeld ?_ ?_
                       rotate_left; · rintro w' ⟨s0, s1, s2, s3, s4, s5, s6, s7, s8⟩; go_simp; with_reducible rfl
                       rotate_left; · simp only [Act.put, qA, qZ, qS, i64_w, i32_w]; rfl
                       refine pv_ 23 88 q24 HT_ ?_; refine pv_ 24 89 q25 HT_ ?_; refine pv_ 25 90 q26 HT_ ?_; refine pv_ 26 91 q27 HT_ ?_; refine pv_ 27 92 q28 HT_ ?_; refine pv_ 28 93 q29 HT_ ?_; refine pv_ 29 94 q30 HT_ ?_; refine pv_ 30 95 q31 HT_ ?_; refine pv_ 32 97 q61 HT_ ?_; refine pv_ 33 98 q62 HT_ ?_; refine pv_ 34 99 q63 HT_ ?_; refine pv_ 35 100 q64 HT_ ?_
                       refine take_ (i := 31) (N := some 96) (v := ?_) (a' := ?_) q36 rfl rfl (take_ofW HT_.out HW_.out (by kernel_rfl)) (fun _ _ _ h => h) (Or.inl ⟨by rfl, ?_⟩) hHeld ?_ ?_
                       rotate_left; · rintro w' ⟨s0, s1, s2, s3, s4, s5, s6, s7, s8⟩; go_simp; with_reducible rfl
                       rotate_left; · simp only [Act.put, qA, qZ, qS, i64_w, i32_w]; rfl
                       refine take_ (i := 36) (N := some 101) (v := ?_) (a' := ?_) q37 rfl rfl (take_ofW HT_.out HW_.out (by kernel_rfl)) (fun _ _ _ h => h) (Or.inl ⟨by rfl, ?_⟩) hHeld ?_ ?_
                       rotate_left; · rintro w' ⟨s0, s1, s2, s3, s4, s5, s6, s7, s8⟩; go_simp; with_reducible rfl
                       rotate_left; · simp only [Act.put, qA, qZ, qS, i64_w, i32_w]; rfl
                       refine pv_ 37 102 q38 HT_ ?_; refine pv_ 38 103 q39 HT_ ?_; refine pu_ 39 104 q40 HT_ ?_; refine pu_ 40 105 q41 HT_ ?_; refine pu_ 41 106 q42 HT_ ?_; refine pu_ 42 107 q43 HT_ ?_; refine pu_ 43 108 q44 HT_ ?_; refine pu_ 44 109 q45 HT_ ?_; refine pu_ 45 110 q46 HT_ ?_; refine pu_ 46 111 q47 HT_ ?_; refine pu_ 47 112 q48 HT_ ?_; refine pu_ 48 113 q49 HT_ ?_; refine pv_ 49 114 q50 HT_ ?_; refine pv_ 50 115 q51 HT_ ?_; refine pv_ 51 8 q52 HT_ ?_
                       refine done_ (done_of HT_.out (by kernel_rfl)) ?_
                       try go_wp2
                       go_roundg k3
                       case measure => have := HK1.out; have := HK2.out; have := HK3.out; omega
                       case rel => exact ⟨(false), (wrap64 (x11_3 + 1)), (by first | rfl | (simp; done) | (simp [*]; done)), (by first | rfl | (simp; done) | (simp [*]; done)), H', ⟨by have := HK1.out; have := HK2.out; have := HK3.out; omega⟩, ⟨kv_ HO_4⟩, ⟨kr_ HO_5⟩, ⟨kr_ HO_312001⟩, ⟨bk_ BK311⟩, ⟨by repeat (first | (with_reducible exact HR325_0.out) | (with_reducible refine Kd.C_alloc ?_ _) | (with_reducible refine Kd.C_drewN ?_ _) | (with_reducible refine Kd.C_drew ?_) | exact HR325_0.out)⟩, ⟨bw1_ HB GE311.out⟩⟩
                    ·rw [if_neg c35] at H
                     exact absurd H (by simp)
                   ·rw [if_neg c34] at H
                    have c34b0 : ((rd ((rd_T61 t308 x9_2).f0) (ji29)) == ((rd_T63 t312 x7_1).f0)) = false := beq_eq_false_iff_ne.mpr c34
                    have c34b1 : ((rd ((rd_T61 t308 x9_2).f0) (ji29)) != ((rd_T63 t312 x7_1).f0)) = true := bne_iff_ne.mpr c34
                    by_cases c41 : (rd ((rd_T61 t308 x9_2).f0) (ji29)) = ((rd_T63 t312 x7_1).f1)
                    ·rw [if_pos c41] at H
                     have c41b0 : ((rd ((rd_T61 t308 x9_2).f0) (ji29)) == ((rd_T63 t312 x7_1).f1)) = true := beq_iff_eq.mpr c41
                     have c41b1 : ((rd ((rd_T61 t308 x9_2).f0) (ji29)) != ((rd_T63 t312 x7_1).f1)) = false := bne_eq_false_iff_eq.mpr c41
                     clear c41
                     by_cases c42 : 0 ≤ x11_3
                     ·rw [if_pos c42] at H
                      have c42b0 : decide (0 ≤ x11_3) = true := decide_eq_true c42
                      clear c42
                      have H' := Aside0.mk H
                      clear H
                      try go_wp2
                      have n0_ := Aside0.mk (Kd.V_drew HO_4.out)
                      have n1_ := Aside0.mk (Kd.R_drew HO_5.out)
                      have n2_ := Aside0.mk (Kd.R_drew HO_312001.out)
                      have n3_ := Aside0.mk (blk_drew BK311.out)
                      have n4_ := Aside0.mk (Kd.C_drew HR325_0.out)
                      have n5_ := Aside0.mk (below_drew1 HB.out)
                      clear HO_4
                      clear HO_5
                      clear HO_312001
                      clear BK311
                      clear HR325_0
                      clear HB
                      have HO_4 := n0_
                      have HO_5 := n1_
                      have HO_312001 := n2_
                      have BK311 := n3_
                      have HR325_0 := n4_
                      have HB := n5_
                      clear n0_ n1_ n2_ n3_ n4_ n5_
                      have p326 : 0 ≤ ((ji29) : Int) := of_decide_eq_true (by first | (with_reducible assumption) | assumption)
                      have q326 : (ji29) < (((rd_T61 t308 x9_2).f0).length : Int) := of_decide_eq_true (by first | (with_reducible assumption) | assumption)
                      obtain ⟨ad326, e326, hx326_0⟩ := Kd.at_int HR325_0.out (ji29) p326 q326
                      cases e326
                      replace p326 := eq_true p326
                      replace q326 := eq_true q326
                      have p327 : 0 ≤ (x7_1 : Int) := of_decide_eq_true (by first | (with_reducible assumption) | assumption)
                      have q327 : x7_1 < (t312.length : Int) := of_decide_eq_true (by first | (with_reducible assumption) | assumption)
                      obtain ⟨ad327, e327, hx327_0, hx327_1⟩ := at_T63 (Kd.R_reads' HO_5.out).2.2 x7_1 p327 q327
                      cases e327
                      replace p327 := eq_true p327
                      replace q327 := eq_true q327
                      have p334 : 0 ≤ ((ji29) : Int) := of_decide_eq_true (by first | (with_reducible assumption) | assumption)
                      have q334 : (ji29) < (((rd_T61 t308 x9_2).f0).length : Int) := of_decide_eq_true (by first | (with_reducible assumption) | assumption)
                      obtain ⟨ad334, e334, hx334_0⟩ := Kd.at_int HR325_0.out (ji29) p334 q334
                      obtain rfl : ad326 = ad334 := (by injection e334)
                      replace p334 := eq_true p334
                      replace q334 := eq_true q334
                      have p335 : 0 ≤ (x7_1 : Int) := of_decide_eq_true (by first | (with_reducible assumption) | assumption)
                      have q335 : x7_1 < (t312.length : Int) := of_decide_eq_true (by first | (with_reducible assumption) | assumption)
                      obtain ⟨ad335, e335, hx335_0, hx335_1⟩ := at_T63 (Kd.R_reads' HO_5.out).2.2 x7_1 p335 q335
                      obtain rfl : ad327 = ad335 := (by injection e335)
                      replace p335 := eq_true p335
                      replace q335 := eq_true q335
                      have p336 : 0 ≤ (x11_3 : Int) := of_decide_eq_true (by first | (with_reducible assumption) | assumption)
                      have q336 : x11_3 < (((rd_T61 t308 x9_2).f0).length : Int) := of_decide_eq_true (by first | (with_reducible assumption) | assumption)
                      obtain ⟨ad336, e336, hx336_0⟩ := Kd.at_int HR325_0.out x11_3 p336 q336
                      obtain rfl : ad326 = ad336 := (by injection e336)
                      replace p336 := eq_true p336
                      replace q336 := eq_true q336
                      have p337 : 0 ≤ (x7_1 : Int) := of_decide_eq_true (by first | (with_reducible assumption) | assumption)
                      have q337 : x7_1 < (t312.length : Int) := of_decide_eq_true (by first | (with_reducible assumption) | assumption)
                      obtain ⟨ad337, e337, hx337_0, hx337_1⟩ := at_T63 (Kd.R_reads' HO_5.out).2.2 x7_1 p337 q337
                      obtain rfl : ad327 = ad337 := (by injection e337)
                      replace p337 := eq_true p337
                      replace q337 := eq_true q337
                      refine start_ (n := 52) (S := fun w' => w'.cell? (ad326.add ((ji29)).toNat) = some (.int .i64 (rd ((rd_T61 t308 x9_2).f0) (ji29))) ∧ w'.cell? (ad327.add ((x7_1).toNat * 2)) = some (.int .i64 ((rd_T63 t312 x7_1).f0)) ∧ w'.cell? ⟨(ad327.add ((x7_1).toNat * 2)).block, (ad327.add ((x7_1).toNat * 2)).off + 1, none⟩ = some (.int .i64 ((rd_T63 t312 x7_1).f1)) ∧ w'.cell? (ad326.add ((ji29)).toNat) = some (.int .i64 (rd ((rd_T61 t308 x9_2).f0) (ji29))) ∧ w'.cell? (ad327.add ((x7_1).toNat * 2)) = some (.int .i64 ((rd_T63 t312 x7_1).f0)) ∧ w'.cell? ⟨(ad327.add ((x7_1).toNat * 2)).block, (ad327.add ((x7_1).toNat * 2)).off + 1, none⟩ = some (.int .i64 ((rd_T63 t312 x7_1).f1)) ∧ w'.cell? (ad326.add (x11_3).toNat) = some (.int .i64 (rd ((rd_T61 t308 x9_2).f0) x11_3)) ∧ w'.cell? (ad327.add ((x7_1).toNat * 2)) = some (.int .i64 ((rd_T63 t312 x7_1).f0)) ∧ w'.cell? ⟨(ad327.add ((x7_1).toNat * 2)).block, (ad327.add ((x7_1).toNat * 2)).off + 1, none⟩ = some (.int .i64 ((rd_T63 t312 x7_1).f1))) (ds := []) q0 (by kernel_rfl) rfl rfl ⟨hx326_0, hx327_0, hx327_1, hx334_0, hx335_0, hx335_1, hx336_0, hx337_0, hx337_1⟩ (fun hHeld => ?_); refine with_tabW laws_FnMaps.tab21 laws_FnMaps.bits21 (fun HT_ HW_ => ?_)
                      generalize wr.drew = w43 at HO_4 HO_5 HO_312001 BK311 HR325_0 HB hx326_0 hx327_0 hx327_1 hx334_0 hx335_0 hx335_1 hx336_0 hx337_0 hx337_1 hHeld ⊢
                      refine pv_ 0 65 q1 HT_ ?_; refine pv_ 1 66 q2 HT_ ?_; refine pv_ 2 67 q3 HT_ ?_; refine pv_ 3 68 q4 HT_ ?_; refine pv_ 4 69 q5 HT_ ?_; refine pv_ 5 70 q6 HT_ ?_; refine pv_ 7 72 q53 HT_ ?_; refine pv_ 8 73 q54 HT_ ?_; refine pv_ 9 74 q55 HT_ ?_; refine pv_ 10 75 q56 HT_ ?_
                      refine take_ (i := 6) (N := some 71) (v := ?_) (a' := ?_) q11 rfl rfl (take_ofW HT_.out HW_.out (by kernel_rfl)) (fun _ _ _ h => h) (Or.inl ⟨by rfl, ?_⟩) hHeld ?_ ?_
                      rotate_left; · rintro w' ⟨s0, s1, s2, s3, s4, s5, s6, s7, s8⟩; go_simp; with_reducible rfl
                      rotate_left; · simp only [Act.put, qA, qZ, qS, i64_w, i32_w]; rfl
                      refine take_ (i := 11) (N := some 76) (v := ?_) (a' := ?_) q12 rfl rfl (take_ofW HT_.out HW_.out (by kernel_rfl)) (fun _ _ _ h => h) (Or.inl ⟨by rfl, ?_⟩) hHeld ?_ ?_
                      rotate_left; · rintro w' ⟨s0, s1, s2, s3, s4, s5, s6, s7, s8⟩; go_simp; with_reducible rfl
                      rotate_left; · simp only [Act.put, qA, qZ, qS, i64_w, i32_w]; rfl
                      refine pv_ 12 77 q13 HT_ ?_; refine pv_ 13 78 q14 HT_ ?_; refine pu_ 14 79 q15 HT_ ?_; refine pu_ 15 80 q16 HT_ ?_; refine pu_ 16 81 q17 HT_ ?_; refine pu_ 17 82 q18 HT_ ?_; refine pu_ 18 83 q19 HT_ ?_; refine pu_ 19 84 q20 HT_ ?_; refine pu_ 20 85 q21 HT_ ?_; refine pu_ 21 86 q22 HT_ ?_; refine pu_ 22 87 q23 HT_ ?_; refine pu_ 23 88 q24 HT_ ?_; refine pv_ 24 89 q25 HT_ ?_; refine pv_ 25 90 q26 HT_ ?_; refine pv_ 26 91 q27 HT_ ?_; refine pv_ 27 92 q28 HT_ ?_; refine pv_ 28 93 q29 HT_ ?_; refine pv_ 29 94 q30 HT_ ?_; refine pv_ 30 95 q31 HT_ ?_; refine pv_ 32 97 q61 HT_ ?_; refine pv_ 33 98 q62 HT_ ?_; refine pv_ 34 99 q63 HT_ ?_; refine pv_ 35 100 q64 HT_ ?_
                      refine take_ (i := 31) (N := some 96) (v := ?_) (a' := ?_) q36 rfl rfl (take_ofW HT_.out HW_.out (by kernel_rfl)) (fun _ _ _ h => h) (Or.inl ⟨by rfl, ?_⟩) hHeld ?_ ?_
                      rotate_left; · rintro w' ⟨s0, s1, s2, s3, s4, s5, s6, s7, s8⟩; go_simp; with_reducible rfl
                      rotate_left; · simp only [Act.put, qA, qZ, qS, i64_w, i32_w]; rfl
                      refine take_ (i := 36) (N := some 101) (v := ?_) (a' := ?_) q37 rfl rfl (take_ofW HT_.out HW_.out (by kernel_rfl)) (fun _ _ _ h => h) (Or.inl ⟨by rfl, ?_⟩) hHeld ?_ ?_
                      rotate_left; · rintro w' ⟨s0, s1, s2, s3, s4, s5, s6, s7, s8⟩; go_simp; with_reducible rfl
                      rotate_left; · simp only [Act.put, qA, qZ, qS, i64_w, i32_w]; rfl
                      refine pv_ 37 102 q38 HT_ ?_; refine pv_ 38 103 q39 HT_ ?_; refine pv_ 39 104 q40 HT_ ?_; refine pv_ 40 105 q41 HT_ ?_; refine pv_ 41 106 q42 HT_ ?_; refine pv_ 43 108 q65 HT_ ?_; refine pv_ 44 109 q66 HT_ ?_; refine pv_ 45 110 q67 HT_ ?_; refine pv_ 46 111 q68 HT_ ?_
                      refine take_ (i := 42) (N := some 107) (v := ?_) (a' := ?_) q47 rfl rfl (take_ofW HT_.out HW_.out (by kernel_rfl)) (fun _ _ _ h => h) (Or.inl ⟨by rfl, ?_⟩) hHeld ?_ ?_
                      rotate_left; · rintro w' ⟨s0, s1, s2, s3, s4, s5, s6, s7, s8⟩; go_simp; with_reducible rfl
                      rotate_left; · simp only [Act.put, qA, qZ, qS, i64_w, i32_w]; rfl
                      refine take_ (i := 47) (N := some 112) (v := ?_) (a' := ?_) q48 rfl rfl (take_ofW HT_.out HW_.out (by kernel_rfl)) (fun _ _ _ h => h) (Or.inl ⟨by rfl, ?_⟩) hHeld ?_ ?_
                      rotate_left; · rintro w' ⟨s0, s1, s2, s3, s4, s5, s6, s7, s8⟩; go_simp; with_reducible rfl
                      rotate_left; · simp only [Act.put, qA, qZ, qS, i64_w, i32_w]; rfl
                      refine pv_ 48 113 q49 HT_ ?_; refine pv_ 49 114 q50 HT_ ?_; refine pv_ 50 115 q51 HT_ ?_; refine pv_ 51 8 q52 HT_ ?_
                      refine done_ (done_of HT_.out (by kernel_rfl)) ?_
                      try go_wp2
                      go_roundg k3
                      case measure => have := HK1.out; have := HK2.out; have := HK3.out; omega
                      case rel => exact ⟨(((rd ((rd_T61 t308 x9_2).f0) x11_3) == ((rd_T63 t312 x7_1).f0))), (wrap64 (x11_3 + 1)), (by first | rfl | (simp; done) | (simp [*]; done)), (by first | rfl | (simp; done) | (simp [*]; done)), H', ⟨by have := HK1.out; have := HK2.out; have := HK3.out; omega⟩, ⟨kv_ HO_4⟩, ⟨kr_ HO_5⟩, ⟨kr_ HO_312001⟩, ⟨bk_ BK311⟩, ⟨by repeat (first | (with_reducible exact HR325_0.out) | (with_reducible refine Kd.C_alloc ?_ _) | (with_reducible refine Kd.C_drewN ?_ _) | (with_reducible refine Kd.C_drew ?_) | exact HR325_0.out)⟩, ⟨bw1_ HB GE311.out⟩⟩
                     ·rw [if_neg c42] at H
                      exact absurd H (by simp)
                    ·rw [if_neg c41] at H
                     have c41b0 : ((rd ((rd_T61 t308 x9_2).f0) (ji29)) == ((rd_T63 t312 x7_1).f1)) = false := beq_eq_false_iff_ne.mpr c41
                     have c41b1 : ((rd ((rd_T61 t308 x9_2).f0) (ji29)) != ((rd_T63 t312 x7_1).f1)) = true := bne_iff_ne.mpr c41
                     have H' := Aside0.mk H
                     clear H
                     try go_wp2
                     have n0_ := Aside0.mk (Kd.V_drew HO_4.out)
                     have n1_ := Aside0.mk (Kd.R_drew HO_5.out)
                     have n2_ := Aside0.mk (Kd.R_drew HO_312001.out)
                     have n3_ := Aside0.mk (blk_drew BK311.out)
                     have n4_ := Aside0.mk (Kd.C_drew HR325_0.out)
                     have n5_ := Aside0.mk (below_drew1 HB.out)
                     clear HO_4
                     clear HO_5
                     clear HO_312001
                     clear BK311
                     clear HR325_0
                     clear HB
                     have HO_4 := n0_
                     have HO_5 := n1_
                     have HO_312001 := n2_
                     have BK311 := n3_
                     have HR325_0 := n4_
                     have HB := n5_
                     clear n0_ n1_ n2_ n3_ n4_ n5_
                     have p326 : 0 ≤ ((ji29) : Int) := of_decide_eq_true (by first | (with_reducible assumption) | assumption)
                     have q326 : (ji29) < (((rd_T61 t308 x9_2).f0).length : Int) := of_decide_eq_true (by first | (with_reducible assumption) | assumption)
                     obtain ⟨ad326, e326, hx326_0⟩ := Kd.at_int HR325_0.out (ji29) p326 q326
                     cases e326
                     replace p326 := eq_true p326
                     replace q326 := eq_true q326
                     have p327 : 0 ≤ (x7_1 : Int) := of_decide_eq_true (by first | (with_reducible assumption) | assumption)
                     have q327 : x7_1 < (t312.length : Int) := of_decide_eq_true (by first | (with_reducible assumption) | assumption)
                     obtain ⟨ad327, e327, hx327_0, hx327_1⟩ := at_T63 (Kd.R_reads' HO_5.out).2.2 x7_1 p327 q327
                     cases e327
                     replace p327 := eq_true p327
                     replace q327 := eq_true q327
                     have p334 : 0 ≤ ((ji29) : Int) := of_decide_eq_true (by first | (with_reducible assumption) | assumption)
                     have q334 : (ji29) < (((rd_T61 t308 x9_2).f0).length : Int) := of_decide_eq_true (by first | (with_reducible assumption) | assumption)
                     obtain ⟨ad334, e334, hx334_0⟩ := Kd.at_int HR325_0.out (ji29) p334 q334
                     obtain rfl : ad326 = ad334 := (by injection e334)
                     replace p334 := eq_true p334
                     replace q334 := eq_true q334
                     have p335 : 0 ≤ (x7_1 : Int) := of_decide_eq_true (by first | (with_reducible assumption) | assumption)
                     have q335 : x7_1 < (t312.length : Int) := of_decide_eq_true (by first | (with_reducible assumption) | assumption)
                     obtain ⟨ad335, e335, hx335_0, hx335_1⟩ := at_T63 (Kd.R_reads' HO_5.out).2.2 x7_1 p335 q335
                     obtain rfl : ad327 = ad335 := (by injection e335)
                     replace p335 := eq_true p335
                     replace q335 := eq_true q335
                     refine start_ (n := 52) (S := fun w' => w'.cell? (ad326.add ((ji29)).toNat) = some (.int .i64 (rd ((rd_T61 t308 x9_2).f0) (ji29))) ∧ w'.cell? (ad327.add ((x7_1).toNat * 2)) = some (.int .i64 ((rd_T63 t312 x7_1).f0)) ∧ w'.cell? ⟨(ad327.add ((x7_1).toNat * 2)).block, (ad327.add ((x7_1).toNat * 2)).off + 1, none⟩ = some (.int .i64 ((rd_T63 t312 x7_1).f1)) ∧ w'.cell? (ad326.add ((ji29)).toNat) = some (.int .i64 (rd ((rd_T61 t308 x9_2).f0) (ji29))) ∧ w'.cell? (ad327.add ((x7_1).toNat * 2)) = some (.int .i64 ((rd_T63 t312 x7_1).f0)) ∧ w'.cell? ⟨(ad327.add ((x7_1).toNat * 2)).block, (ad327.add ((x7_1).toNat * 2)).off + 1, none⟩ = some (.int .i64 ((rd_T63 t312 x7_1).f1))) (ds := []) q0 (by kernel_rfl) rfl rfl ⟨hx326_0, hx327_0, hx327_1, hx334_0, hx335_0, hx335_1⟩ (fun hHeld => ?_); refine with_tabW laws_FnMaps.tab21 laws_FnMaps.bits21 (fun HT_ HW_ => ?_)
                     generalize wr.drew = w44 at HO_4 HO_5 HO_312001 BK311 HR325_0 HB hx326_0 hx327_0 hx327_1 hx334_0 hx335_0 hx335_1 hHeld ⊢
                     refine pv_ 0 65 q1 HT_ ?_; refine pv_ 1 66 q2 HT_ ?_; refine pv_ 2 67 q3 HT_ ?_; refine pv_ 3 68 q4 HT_ ?_; refine pv_ 4 69 q5 HT_ ?_; refine pv_ 5 70 q6 HT_ ?_; refine pv_ 7 72 q53 HT_ ?_; refine pv_ 8 73 q54 HT_ ?_; refine pv_ 9 74 q55 HT_ ?_; refine pv_ 10 75 q56 HT_ ?_
                     refine take_ (i := 6) (N := some 71) (v := ?_) (a' := ?_) q11 rfl rfl (take_ofW HT_.out HW_.out (by kernel_rfl)) (fun _ _ _ h => h) (Or.inl ⟨by rfl, ?_⟩) hHeld ?_ ?_
                     rotate_left; · rintro w' ⟨s0, s1, s2, s3, s4, s5⟩; go_simp; with_reducible rfl
                     rotate_left; · simp only [Act.put, qA, qZ, qS, i64_w, i32_w]; rfl
                     refine take_ (i := 11) (N := some 76) (v := ?_) (a' := ?_) q12 rfl rfl (take_ofW HT_.out HW_.out (by kernel_rfl)) (fun _ _ _ h => h) (Or.inl ⟨by rfl, ?_⟩) hHeld ?_ ?_
                     rotate_left; · rintro w' ⟨s0, s1, s2, s3, s4, s5⟩; go_simp; with_reducible rfl
                     rotate_left; · simp only [Act.put, qA, qZ, qS, i64_w, i32_w]; rfl
                     refine pv_ 12 77 q13 HT_ ?_; refine pv_ 13 78 q14 HT_ ?_; refine pu_ 14 79 q15 HT_ ?_; refine pu_ 15 80 q16 HT_ ?_; refine pu_ 16 81 q17 HT_ ?_; refine pu_ 17 82 q18 HT_ ?_; refine pu_ 18 83 q19 HT_ ?_; refine pu_ 19 84 q20 HT_ ?_; refine pu_ 20 85 q21 HT_ ?_; refine pu_ 21 86 q22 HT_ ?_; refine pu_ 22 87 q23 HT_ ?_; refine pu_ 23 88 q24 HT_ ?_; refine pv_ 24 89 q25 HT_ ?_; refine pv_ 25 90 q26 HT_ ?_; refine pv_ 26 91 q27 HT_ ?_; refine pv_ 27 92 q28 HT_ ?_; refine pv_ 28 93 q29 HT_ ?_; refine pv_ 29 94 q30 HT_ ?_; refine pv_ 30 95 q31 HT_ ?_; refine pv_ 32 97 q61 HT_ ?_; refine pv_ 33 98 q62 HT_ ?_; refine pv_ 34 99 q63 HT_ ?_; refine pv_ 35 100 q64 HT_ ?_
                     refine take_ (i := 31) (N := some 96) (v := ?_) (a' := ?_) q36 rfl rfl (take_ofW HT_.out HW_.out (by kernel_rfl)) (fun _ _ _ h => h) (Or.inl ⟨by rfl, ?_⟩) hHeld ?_ ?_
                     rotate_left; · rintro w' ⟨s0, s1, s2, s3, s4, s5⟩; go_simp; with_reducible rfl
                     rotate_left; · simp only [Act.put, qA, qZ, qS, i64_w, i32_w]; rfl
                     refine take_ (i := 36) (N := some 101) (v := ?_) (a' := ?_) q37 rfl rfl (take_ofW HT_.out HW_.out (by kernel_rfl)) (fun _ _ _ h => h) (Or.inl ⟨by rfl, ?_⟩) hHeld ?_ ?_
                     rotate_left; · rintro w' ⟨s0, s1, s2, s3, s4, s5⟩; go_simp; with_reducible rfl
                     rotate_left; · simp only [Act.put, qA, qZ, qS, i64_w, i32_w]; rfl
                     refine pv_ 37 102 q38 HT_ ?_; refine pv_ 38 103 q39 HT_ ?_; refine pu_ 39 104 q40 HT_ ?_; refine pu_ 40 105 q41 HT_ ?_; refine pu_ 41 106 q42 HT_ ?_; refine pu_ 42 107 q43 HT_ ?_; refine pu_ 43 108 q44 HT_ ?_; refine pu_ 44 109 q45 HT_ ?_; refine pu_ 45 110 q46 HT_ ?_; refine pu_ 46 111 q47 HT_ ?_; refine pu_ 47 112 q48 HT_ ?_; refine pu_ 48 113 q49 HT_ ?_; refine pv_ 49 114 q50 HT_ ?_; refine pv_ 50 115 q51 HT_ ?_; refine pv_ 51 8 q52 HT_ ?_
                     refine done_ (done_of HT_.out (by kernel_rfl)) ?_
                     try go_wp2
                     go_roundg k3
                     case measure => have := HK1.out; have := HK2.out; have := HK3.out; omega
                     case rel => exact ⟨(false), (wrap64 (x11_3 + 1)), (by first | rfl | (simp; done) | (simp [*]; done)), (by first | rfl | (simp; done) | (simp [*]; done)), H', ⟨by have := HK1.out; have := HK2.out; have := HK3.out; omega⟩, ⟨kv_ HO_4⟩, ⟨kr_ HO_5⟩, ⟨kr_ HO_312001⟩, ⟨bk_ BK311⟩, ⟨by repeat (first | (with_reducible exact HR325_0.out) | (with_reducible refine Kd.C_alloc ?_ _) | (with_reducible refine Kd.C_drewN ?_ _) | (with_reducible refine Kd.C_drew ?_) | exact HR325_0.out)⟩, ⟨bw1_ HB GE311.out⟩⟩
                  ·rw [if_neg c33] at H
                   exact absurd H (by simp)
                 ·rw [if_neg c32] at H
                  exact absurd H (by simp)
                ·rw [if_neg c31] at H
                 exact absurd H (by simp)
               ·rw [if_neg c30] at H
                exact absurd H (by simp)
             ·rw [if_neg c26] at H
              have c26b0 : decide (x11_3 < (((rd_T61 t308 x9_2).f0).length : Int)) = false := decide_eq_false c26
              clear c26
              have H' := Aside0.mk H
              clear H
              go_wp2
              go_roundg k3
              case measure => have := HK1.out; have := HK2.out; have := HK3.out; omega
              case rel => exact ⟨(x8_3), (wrap64 (x9_2 + 1)), (by first | rfl | (simp; done) | (simp [*]; done)), (by first | rfl | (simp; done) | (simp [*]; done)), H', ⟨by have := HK1.out; have := HK2.out; have := HK3.out; omega⟩, ⟨kv_ HO_4⟩, ⟨kr_ HO_5⟩, ⟨kr_ HO_312001⟩, ⟨bk_ BK311⟩, ⟨bw1_ HB GE311.out⟩⟩
          ·rw [if_neg c25] at H
           exact absurd H (by simp)
         ·rw [if_neg c24] at H
          have c24b0 : decide (x9_2 < (t308.length : Int)) = false := decide_eq_false c24
          clear c24
          by_cases c45 : x8_2 = true
          ·subst c45
           have H1 : (if 0 ≤ x7_1 then (if x7_1 < (t312.length : Int) then (if ((rd_T63 t312 x7_1).f0) ≥ ((rd_T63 t312 x7_1).f1) then (some false) else (if x6_1 = true then ((impl_LinkOf.f t304 t305 ((rd_T63 t312 x7_1).f0) ((rd_T63 t312 x7_1).f1)).bind fun t324 => (laws_FnMaps.l0 k2 t308 t312 (decide (t324 ≥ 0)) (wrap64 (x7_1 + 1)) t304 t305)) else (laws_FnMaps.l0 k2 t308 t312 false (wrap64 (x7_1 + 1)) t304 t305))) else (none)) else (none)) = some r := by rw [if_pos rfl] at H; exact H
           clear H
           have H := H1
           clear H1
           by_cases c46 : 0 ≤ x7_1
           ·rw [if_pos c46] at H
            have c46b0 : decide (0 ≤ x7_1) = true := decide_eq_true c46
            clear c46
            by_cases c47 : x7_1 < (t312.length : Int)
            ·rw [if_pos c47] at H
             have c47b0 : decide (x7_1 < (t312.length : Int)) = true := decide_eq_true c47
             clear c47
             by_cases c48 : ((rd_T63 t312 x7_1).f0) ≥ ((rd_T63 t312 x7_1).f1)
             ·rw [if_pos c48] at H
              have c48b0 : decide (((rd_T63 t312 x7_1).f1) ≤ ((rd_T63 t312 x7_1).f0)) = true := decide_eq_true c48
              clear c48
              exact absurd ((Option.some.inj H).trans hrt.out) (by decide)
             ·rw [if_neg c48] at H
              have c48b0 : decide (((rd_T63 t312 x7_1).f1) ≤ ((rd_T63 t312 x7_1).f0)) = false := decide_eq_false c48
              clear c48
              by_cases c49 : x6_1 = true
              ·subst c49
               have H1 : ((impl_LinkOf.f t304 t305 ((rd_T63 t312 x7_1).f0) ((rd_T63 t312 x7_1).f1)).bind fun t324 => (laws_FnMaps.l0 k2 t308 t312 (decide (t324 ≥ 0)) (wrap64 (x7_1 + 1)) t304 t305)) = some r := by rw [if_pos rfl] at H; exact H
               clear H
               have H := H1
               clear H1
               replace H := Option.bind_eq_some_iff.mp H
               obtain ⟨t324, A500, H⟩ := H
               replace H : (laws_FnMaps.l0 k2 t308 t312 (decide (t324 ≥ 0)) (wrap64 (x7_1 + 1)) t304 t305) = some r := H
               have A50 := Aside0.mk A500
               clear A500
               have H' := Aside0.mk H
               clear H
               try go_wp2
               have n0_ := Aside0.mk (Kd.V_drew HO_4.out)
               have n1_ := Aside0.mk (Kd.R_drew HO_5.out)
               have n2_ := Aside0.mk (Kd.R_drew HO_312001.out)
               have n3_ := Aside0.mk (blk_drew BK311.out)
               have n4_ := Aside0.mk (below_drew1 HB.out)
               clear HO_4
               clear HO_5
               clear HO_312001
               clear BK311
               clear HB
               have HO_4 := n0_
               have HO_5 := n1_
               have HO_312001 := n2_
               have BK311 := n3_
               have HB := n4_
               clear n0_ n1_ n2_ n3_ n4_
               have p320 : 0 ≤ (x7_1 : Int) := of_decide_eq_true (by first | (with_reducible assumption) | assumption)
               have q320 : x7_1 < (t312.length : Int) := of_decide_eq_true (by first | (with_reducible assumption) | assumption)
               obtain ⟨ad320, e320, hx320_0, hx320_1⟩ := at_T63 (Kd.R_reads' HO_5.out).2.2 x7_1 p320 q320
               cases e320
               replace p320 := eq_true p320
               replace q320 := eq_true q320
               have p321 : 0 ≤ (x7_1 : Int) := of_decide_eq_true (by first | (with_reducible assumption) | assumption)
               have q321 : x7_1 < (t312.length : Int) := of_decide_eq_true (by first | (with_reducible assumption) | assumption)
               obtain ⟨ad321, e321, hx321_0, hx321_1⟩ := at_T63 (Kd.R_reads' HO_5.out).2.2 x7_1 p321 q321
               obtain rfl : ad320 = ad321 := (by injection e321)
               replace p321 := eq_true p321
               replace q321 := eq_true q321
               refine start_ (n := 15) (S := fun w' => w'.cell? (ad320.add ((x7_1).toNat * 2)) = some (.int .i64 ((rd_T63 t312 x7_1).f0)) ∧ w'.cell? ⟨(ad320.add ((x7_1).toNat * 2)).block, (ad320.add ((x7_1).toNat * 2)).off + 1, none⟩ = some (.int .i64 ((rd_T63 t312 x7_1).f1)) ∧ w'.cell? (ad320.add ((x7_1).toNat * 2)) = some (.int .i64 ((rd_T63 t312 x7_1).f0)) ∧ w'.cell? ⟨(ad320.add ((x7_1).toNat * 2)).block, (ad320.add ((x7_1).toNat * 2)).off + 1, none⟩ = some (.int .i64 ((rd_T63 t312 x7_1).f1))) (ds := []) q69 (by kernel_rfl) rfl rfl ⟨hx320_0, hx320_1, hx321_0, hx321_1⟩ (fun hHeld => ?_); refine with_tabW laws_FnMaps.tab22 laws_FnMaps.bits22 (fun HT_ HW_ => ?_)
               generalize wr.drew = w51 at HO_4 HO_5 HO_312001 BK311 HB hx320_0 hx320_1 hx321_0 hx321_1 hHeld ⊢
               refine pv_ 0 116 q70 HT_ ?_; refine pv_ 1 117 q71 HT_ ?_; refine pv_ 2 118 q72 HT_ ?_; refine pv_ 3 119 q73 HT_ ?_; refine pv_ 4 120 q74 HT_ ?_; refine pv_ 5 121 q75 HT_ ?_; refine pv_ 6 122 q76 HT_ ?_; refine pv_ 8 124 q77 HT_ ?_; refine pv_ 9 125 q78 HT_ ?_; refine pv_ 10 126 q79 HT_ ?_; refine pv_ 11 127 q80 HT_ ?_
               refine take_ (i := 7) (N := some 123) (v := ?_) (a' := ?_) q81 rfl rfl (take_ofW HT_.out HW_.out (by kernel_rfl)) (fun _ _ _ h => h) (Or.inl ⟨by rfl, ?_⟩) hHeld ?_ ?_
               rotate_left; · rintro w' ⟨s0, s1, s2, s3⟩; go_simp; with_reducible rfl
               rotate_left; · simp only [Act.put, qA, qZ, qS, i64_w, i32_w]; rfl
               refine take_ (i := 12) (N := some 128) (v := ?_) (a' := ?_) q82 rfl rfl (take_ofW HT_.out HW_.out (by kernel_rfl)) (fun _ _ _ h => h) (Or.inl ⟨by rfl, ?_⟩) hHeld ?_ ?_
               rotate_left; · rintro w' ⟨s0, s1, s2, s3⟩; go_simp; with_reducible rfl
               rotate_left; · simp only [Act.put, qA, qZ, qS, i64_w, i32_w]; rfl
               refine pv_ 13 129 q83 HT_ ?_; refine pv_ 14 130 q84 HT_ ?_
               refine done_ (done_of HT_.out (by kernel_rfl)) ?_
               try go_wp2
               have n0_ := Aside0.mk (Kd.V_drew HO_4.out)
               have n1_ := Aside0.mk (Kd.R_drew HO_5.out)
               have n2_ := Aside0.mk (Kd.R_drew HO_312001.out)
               have n3_ := Aside0.mk (blk_drew BK311.out)
               have n4_ := Aside0.mk (below_drew1 HB.out)
               clear HO_4
               clear HO_5
               clear HO_312001
               clear BK311
               clear HB
               have HO_4 := n0_
               have HO_5 := n1_
               have HO_312001 := n2_
               have BK311 := n3_
               have HB := n4_
               clear n0_ n1_ n2_ n3_ n4_
               have p322 : 0 ≤ (x7_1 : Int) := of_decide_eq_true (by first | (with_reducible assumption) | assumption)
               have q322 : x7_1 < (t312.length : Int) := of_decide_eq_true (by first | (with_reducible assumption) | assumption)
               obtain ⟨ad322, e322, hx322_0, hx322_1⟩ := at_T63 (Kd.R_reads' HO_5.out).2.2 x7_1 p322 q322
               obtain rfl : ad320 = ad322 := (by injection e322)
               replace p322 := eq_true p322
               replace q322 := eq_true q322
               have p323 : 0 ≤ (x7_1 : Int) := of_decide_eq_true (by first | (with_reducible assumption) | assumption)
               have q323 : x7_1 < (t312.length : Int) := of_decide_eq_true (by first | (with_reducible assumption) | assumption)
               obtain ⟨ad323, e323, hx323_0, hx323_1⟩ := at_T63 (Kd.R_reads' HO_5.out).2.2 x7_1 p323 q323
               obtain rfl : ad320 = ad323 := (by injection e323)
               replace p323 := eq_true p323
               replace q323 := eq_true q323
               refine start_ (n := 17) (S := fun w' => w'.cell? ⟨gb311, 0, none⟩ = some (.int .i64 t304) ∧ w'.cell? ⟨gb311, 1, none⟩ = some (.slice Ao15 t305.length co15) ∧ w'.cell? (ad320.add ((x7_1).toNat * 2)) = some (.int .i64 ((rd_T63 t312 x7_1).f0)) ∧ w'.cell? ⟨(ad320.add ((x7_1).toNat * 2)).block, (ad320.add ((x7_1).toNat * 2)).off + 1, none⟩ = some (.int .i64 ((rd_T63 t312 x7_1).f1)) ∧ w'.cell? (ad320.add ((x7_1).toNat * 2)) = some (.int .i64 ((rd_T63 t312 x7_1).f0)) ∧ w'.cell? ⟨(ad320.add ((x7_1).toNat * 2)).block, (ad320.add ((x7_1).toNat * 2)).off + 1, none⟩ = some (.int .i64 ((rd_T63 t312 x7_1).f1))) (ds := []) q85 (by kernel_rfl) rfl rfl ⟨(blk_cell BK311.out 0).trans rfl, (blk_cell BK311.out 1).trans rfl, hx322_0, hx322_1, hx323_0, hx323_1⟩ (fun hHeld => ?_); refine with_tabW laws_FnMaps.tab24 laws_FnMaps.bits24 (fun HT_ HW_ => ?_)
               generalize w51.drew = w52 at HO_4 HO_5 HO_312001 BK311 HB hx322_0 hx322_1 hx323_0 hx323_1 hHeld ⊢
               refine pv_ 0 131 q86 HT_ ?_; refine pv_ 1 132 q87 HT_ ?_; refine pv_ 3 134 q88 HT_ ?_; refine pv_ 4 135 q89 HT_ ?_; refine pv_ 5 136 q90 HT_ ?_; refine pv_ 6 137 q91 HT_ ?_; refine pv_ 8 139 q92 HT_ ?_; refine pv_ 9 140 q93 HT_ ?_; refine pv_ 10 141 q94 HT_ ?_; refine pv_ 11 142 q95 HT_ ?_
               refine take_ (i := 2) (N := some 133) (v := ?_) (a' := ?_) q96 rfl rfl (take_ofW HT_.out HW_.out (by kernel_rfl)) (fun _ _ _ h => h) (Or.inl ⟨by rfl, ?_⟩) hHeld ?_ ?_
               rotate_left; · rintro w' ⟨s0, s1, s2, s3, s4, s5⟩; go_simp; with_reducible rfl
               rotate_left; · simp only [Act.put, qA, qZ, qS, i64_w, i32_w]; rfl
               refine take_ (i := 7) (N := some 138) (v := ?_) (a' := ?_) q97 rfl rfl (take_ofW HT_.out HW_.out (by kernel_rfl)) (fun _ _ _ h => h) (Or.inl ⟨by rfl, ?_⟩) hHeld ?_ ?_
               rotate_left; · rintro w' ⟨s0, s1, s2, s3, s4, s5⟩; go_simp; with_reducible rfl
               rotate_left; · simp only [Act.put, qA, qZ, qS, i64_w, i32_w]; rfl
               refine take_ (i := 12) (N := some 143) (v := ?_) (a' := ?_) q98 rfl rfl (take_ofW HT_.out HW_.out (by kernel_rfl)) (fun _ _ _ h => h) (Or.inl ⟨by rfl, ?_⟩) hHeld ?_ ?_
               rotate_left; · rintro w' ⟨s0, s1, s2, s3, s4, s5⟩; go_simp; with_reducible rfl
               rotate_left; · simp only [Act.put, qA, qZ, qS, i64_w, i32_w]; rfl
               refine one_ (i := 13) (N := some 144) q99 rfl rfl (one_of HT_.out (by kernel_rfl)) (by decide) (fun K hK => ?_)
               refine goes_ Try.func38 (by kernel_rfl) rfl #[.agg #[.int .i64 t304, .slice Ao15 t305.length co15], .int .i64 ((rd_T63 t312 x7_1).f0), .int .i64 ((rd_T63 t312 x7_1).f1)] (by rfl) rfl rfl (by (try simp only [List.map_toArray, List.map_cons, List.map_nil]); first | done | rfl | (simp only [List.length_drop, List.length_take]; rfl)) ?_
               with_reducible refine (impl_LinkOf.calls t304 _ _ t305 ((rd_T63 t312 x7_1).f0) ((rd_T63 t312 x7_1).f1) t324 _ ?side1 ?side2 A50.out).mono ?_
               (case side1 => repeat (first | exact (Kd.R_reads' HO_312001.out).2.2 | (with_reducible refine Kd.C_alloc ?_ _) | (with_reducible refine Kd.C_drewN ?_ _) | (with_reducible refine Kd.C_drew ?_)))
               (case side2 => exact (Kd.R_reads' HO_312001.out).2.1)
               rintro e w53 ⟨rfl, hb⟩
               have HS2_ := (hb.cell (World.block_lt_of_cell? _ _ (hHeld.2.2.1))).trans (hHeld.2.2.1)
               have HS3_ := (hb.cell (World.block_lt_of_cell? _ _ (hHeld.2.2.2.1))).trans (hHeld.2.2.2.1)
               have HS4_ := (hb.cell (World.block_lt_of_cell? _ _ (hHeld.2.2.2.2.1))).trans (hHeld.2.2.2.2.1)
               have HS5_ := (hb.cell (World.block_lt_of_cell? _ _ (hHeld.2.2.2.2.2))).trans (hHeld.2.2.2.2.2)
               refine ⟨_, rfl, ?_⟩
               have n0_ := Aside0.mk (Kd.V_below (kv_ HO_4) hb)
               have n1_ := Aside0.mk (Kd.R_below (kr_ HO_5) hb)
               have n2_ := Aside0.mk (Kd.R_below (kr_ HO_312001) hb)
               have n3_ := Aside0.mk (blk_below (g := gb311) (o := .cells #[.int .i64 t304, .slice Ao15 t305.length co15] 54 (0, 0)) (bk_ BK311) hb)
               have n4_ := Aside0.mk (below_step (bw1_ HB GE311.out) hb)
               clear HO_4
               clear HO_5
               clear HO_312001
               clear BK311
               clear HB
               have HO_4 := n0_
               have HO_5 := n1_
               have HO_312001 := n2_
               have BK311 := n3_
               have HB := n4_
               clear n0_ n1_ n2_ n3_ n4_
               (try clear hb)
               (try clear hb2)
               (try clear hk)
               (try clear hi)
               refine hK.out _ _ ⟨(blk_cell BK311.out 0).trans rfl, (blk_cell BK311.out 1).trans rfl, HS2_, HS3_, HS4_, HS5_⟩ (fun hHeld => ?_)
               clear hK K
               refine norm_ (a' := ?_) ?_ ?_
               rotate_left; · show Act.put _ (some 144) _ = _; simp only [Act.put, qA, qZ, qS, i64_w, i32_w]; rfl
               refine pv_ 14 145 q100 HT_ ?_; refine pv_ 15 146 q101 HT_ ?_; refine pv_ 16 6 q102 HT_ ?_
               refine done_ (done_of HT_.out (by kernel_rfl)) ?_
               try go_wp2
               go_roundg k2
               case measure => have := HK1.out; have := HK2.out; omega
               case rel => exact ⟨(decide (t324 ≥ 0)), (wrap64 (x7_1 + 1)), (by first | rfl | (simp; done) | (simp [*]; done)), (by first | rfl | (simp; done) | (simp [*]; done)), H', ⟨by have := HK1.out; have := HK2.out; omega⟩, ⟨kv_ HO_4⟩, ⟨kr_ HO_5⟩, ⟨kr_ HO_312001⟩, ⟨bk_ BK311⟩, ⟨bw1_ HB GE311.out⟩⟩
              ·replace c49 := Bool.eq_false_iff.mpr c49
               subst c49
               have H1 : (laws_FnMaps.l0 k2 t308 t312 false (wrap64 (x7_1 + 1)) t304 t305) = some r := by rw [if_neg (show ¬ (false = true) by decide)] at H; exact H
               clear H
               have H := H1
               clear H1
               have H' := Aside0.mk H
               clear H
               try go_wp2
               have n0_ := Aside0.mk (Kd.V_drew HO_4.out)
               have n1_ := Aside0.mk (Kd.R_drew HO_5.out)
               have n2_ := Aside0.mk (Kd.R_drew HO_312001.out)
               have n3_ := Aside0.mk (blk_drew BK311.out)
               have n4_ := Aside0.mk (below_drew1 HB.out)
               clear HO_4
               clear HO_5
               clear HO_312001
               clear BK311
               clear HB
               have HO_4 := n0_
               have HO_5 := n1_
               have HO_312001 := n2_
               have BK311 := n3_
               have HB := n4_
               clear n0_ n1_ n2_ n3_ n4_
               have p320 : 0 ≤ (x7_1 : Int) := of_decide_eq_true (by first | (with_reducible assumption) | assumption)
               have q320 : x7_1 < (t312.length : Int) := of_decide_eq_true (by first | (with_reducible assumption) | assumption)
               obtain ⟨ad320, e320, hx320_0, hx320_1⟩ := at_T63 (Kd.R_reads' HO_5.out).2.2 x7_1 p320 q320
               cases e320
               replace p320 := eq_true p320
               replace q320 := eq_true q320
               have p321 : 0 ≤ (x7_1 : Int) := of_decide_eq_true (by first | (with_reducible assumption) | assumption)
               have q321 : x7_1 < (t312.length : Int) := of_decide_eq_true (by first | (with_reducible assumption) | assumption)
               obtain ⟨ad321, e321, hx321_0, hx321_1⟩ := at_T63 (Kd.R_reads' HO_5.out).2.2 x7_1 p321 q321
               obtain rfl : ad320 = ad321 := (by injection e321)
               replace p321 := eq_true p321
               replace q321 := eq_true q321
               refine start_ (n := 15) (S := fun w' => w'.cell? (ad320.add ((x7_1).toNat * 2)) = some (.int .i64 ((rd_T63 t312 x7_1).f0)) ∧ w'.cell? ⟨(ad320.add ((x7_1).toNat * 2)).block, (ad320.add ((x7_1).toNat * 2)).off + 1, none⟩ = some (.int .i64 ((rd_T63 t312 x7_1).f1)) ∧ w'.cell? (ad320.add ((x7_1).toNat * 2)) = some (.int .i64 ((rd_T63 t312 x7_1).f0)) ∧ w'.cell? ⟨(ad320.add ((x7_1).toNat * 2)).block, (ad320.add ((x7_1).toNat * 2)).off + 1, none⟩ = some (.int .i64 ((rd_T63 t312 x7_1).f1))) (ds := []) q69 (by kernel_rfl) rfl rfl ⟨hx320_0, hx320_1, hx321_0, hx321_1⟩ (fun hHeld => ?_); refine with_tabW laws_FnMaps.tab22 laws_FnMaps.bits22 (fun HT_ HW_ => ?_)
               generalize wr.drew = w54 at HO_4 HO_5 HO_312001 BK311 HB hx320_0 hx320_1 hx321_0 hx321_1 hHeld ⊢
               refine pv_ 0 116 q70 HT_ ?_; refine pv_ 1 117 q71 HT_ ?_; refine pv_ 2 118 q72 HT_ ?_; refine pv_ 3 119 q73 HT_ ?_; refine pv_ 4 120 q74 HT_ ?_; refine pv_ 5 121 q75 HT_ ?_; refine pv_ 6 122 q76 HT_ ?_; refine pv_ 8 124 q77 HT_ ?_; refine pv_ 9 125 q78 HT_ ?_; refine pv_ 10 126 q79 HT_ ?_; refine pv_ 11 127 q80 HT_ ?_
               refine take_ (i := 7) (N := some 123) (v := ?_) (a' := ?_) q81 rfl rfl (take_ofW HT_.out HW_.out (by kernel_rfl)) (fun _ _ _ h => h) (Or.inl ⟨by rfl, ?_⟩) hHeld ?_ ?_
               rotate_left; · rintro w' ⟨s0, s1, s2, s3⟩; go_simp; with_reducible rfl
               rotate_left; · simp only [Act.put, qA, qZ, qS, i64_w, i32_w]; rfl
               refine take_ (i := 12) (N := some 128) (v := ?_) (a' := ?_) q82 rfl rfl (take_ofW HT_.out HW_.out (by kernel_rfl)) (fun _ _ _ h => h) (Or.inl ⟨by rfl, ?_⟩) hHeld ?_ ?_
               rotate_left; · rintro w' ⟨s0, s1, s2, s3⟩; go_simp; with_reducible rfl
               rotate_left; · simp only [Act.put, qA, qZ, qS, i64_w, i32_w]; rfl
               refine pv_ 13 129 q83 HT_ ?_; refine pv_ 14 130 q84 HT_ ?_
               refine done_ (done_of HT_.out (by kernel_rfl)) ?_
               try go_wp2
               have n0_ := Aside0.mk (Kd.V_drew HO_4.out)
               have n1_ := Aside0.mk (Kd.R_drew HO_5.out)
               have n2_ := Aside0.mk (Kd.R_drew HO_312001.out)
               have n3_ := Aside0.mk (blk_drew BK311.out)
               have n4_ := Aside0.mk (below_drew1 HB.out)
               clear HO_4
               clear HO_5
               clear HO_312001
               clear BK311
               clear HB
               have HO_4 := n0_
               have HO_5 := n1_
               have HO_312001 := n2_
               have BK311 := n3_
               have HB := n4_
               clear n0_ n1_ n2_ n3_ n4_
               refine start_ (n := 17) (S := fun w' => True) (ds := []) q85 (by kernel_rfl) rfl rfl trivial (fun hHeld => ?_); refine with_tabW laws_FnMaps.tab24 laws_FnMaps.bits24 (fun HT_ HW_ => ?_)
               generalize w54.drew = w55 at HO_4 HO_5 HO_312001 BK311 HB hHeld ⊢
               refine pv_ 0 131 q86 HT_ ?_; refine pv_ 1 132 q87 HT_ ?_; refine pu_ 2 133 q103 HT_ ?_; refine pu_ 3 134 q104 HT_ ?_; refine pu_ 4 135 q105 HT_ ?_; refine pu_ 5 136 q106 HT_ ?_; refine pu_ 6 137 q107 HT_ ?_; refine pu_ 7 138 q108 HT_ ?_; refine pu_ 8 139 q109 HT_ ?_; refine pu_ 9 140 q110 HT_ ?_; refine pu_ 10 141 q111 HT_ ?_; refine pu_ 11 142 q97 HT_ ?_; refine pu_ 12 143 q98 HT_ ?_; refine pu_ 13 144 q99 HT_ ?_; refine pu_ 14 145 q100 HT_ ?_; refine pv_ 15 146 q101 HT_ ?_; refine pv_ 16 6 q102 HT_ ?_
               refine done_ (done_of HT_.out (by kernel_rfl)) ?_
               try go_wp2
               go_roundg k2
               case measure => have := HK1.out; have := HK2.out; omega
               case rel => exact ⟨(false), (wrap64 (x7_1 + 1)), (by first | rfl | (simp; done) | (simp [*]; done)), (by first | rfl | (simp; done) | (simp [*]; done)), H', ⟨by have := HK1.out; have := HK2.out; omega⟩, ⟨kv_ HO_4⟩, ⟨kr_ HO_5⟩, ⟨kr_ HO_312001⟩, ⟨bk_ BK311⟩, ⟨bw1_ HB GE311.out⟩⟩
            ·rw [if_neg c47] at H
             exact absurd H (by simp)
           ·rw [if_neg c46] at H
            exact absurd H (by simp)
          ·replace c45 := Bool.eq_false_iff.mpr c45
           subst c45
           have H1 : (some false) = some r := by rw [if_neg (show ¬ (false = true) by decide)] at H; exact H
           clear H
           have H := H1
           clear H1
           exact absurd ((Option.some.inj H).trans hrt.out) (by decide)
      ·rw [if_neg c22] at H
       have c22b0 : decide (x7_1 < (t312.length : Int)) = false := decide_eq_false c22
       clear c22
       have H' := Aside0.mk H
       clear H
       obtain ⟨Ao56, co56, eo56⟩ := Kd.R_slice HO_5.out
       subst eo56
       go_wp2
       go_loopg [12, 13] k1 (fun kq v12 v13 w' => ∃ (x12_2 : Int) (x13_2 : Int), v12 = .int .i64 x12_2 ∧ v13 = .int .i64 x13_2 ∧ Aside0 (laws_FnMaps.l3 kq t308 t312 x6_1 x12_2 x13_2 t304 t305 = some r) ∧ Aside0 (kq ≤ k1) ∧ Aside0 (Kd.V k61 61 w' w.heap.size (fun k_ => some k_ ≠ ((.slice Ao56 t312.length co56) : Value).ownBlock ∧ some k_ ≠ ((.slice Ao15 t305.length co15) : Value).ownBlock ∧ k_ ≠ gb311) (.slice Ao16 t308.length co16) t308) ∧ Aside0 (Kd.R k63 63 w' w.heap.size (fun k_ => some k_ ≠ ((.slice Ao15 t305.length co15) : Value).ownBlock) (.slice Ao56 t312.length co56) t312) ∧ Aside0 (Kd.R k63 63 w' w.heap.size (fun k_ => some k_ ≠ ((.slice Ao56 t312.length co56) : Value).ownBlock) (.slice Ao15 t305.length co15) t305) ∧ Aside0 (w'.heap[gb311]? = some (.cells #[.int .i64 t304, (.slice Ao15 t305.length co15)] 54 (0, 0))) ∧ Aside0 (Below w.heap.size w w'))
       case atStart => exact ⟨(0), (0), (by first | rfl | (simp; done) | (simp [*]; done)), (by first | rfl | (simp; done) | (simp [*]; done)), H', ⟨Nat.le_refl _⟩, ⟨kv_ HO_4⟩, ⟨kr_ HO_5⟩, ⟨kr_ HO_312001⟩, ⟨bk_ BK311⟩, ⟨bw1_ HB GE311.out⟩⟩
       case round =>
        clear H'
        (try clear c2); (try clear p2); (try clear c3); (try clear p3); (try clear q3); (try clear hx3); (try clear c4); (try clear p6); (try clear c22); (try clear c22b0); (try clear p32); (try clear q32); (try clear hx32); (try clear c38); (try clear c45); (try clear c46); (try clear c47); (try clear c49); (try clear hx320_0); (try clear hx320_1); (try clear hx321_0); (try clear hx321_1); (try clear hx322_0); (try clear hx322_1); (try clear hx323_0); (try clear hx323_1); (try clear p320); (try clear p321); (try clear p322); (try clear p323); (try clear q320); (try clear q321); (try clear q322); (try clear q323)
        obtain ⟨x12_2, x13_2, rfl, rfl, HA, HK2, HO_4, HO_5, HO_312001, BK311, HB⟩ := hrel
        cases gk with
        | zero => exact absurd HA.out (by simp [laws_FnMaps.l3])
        | succ k2 =>
         have H := HA.out
         clear HA
         simp only [laws_FnMaps.l3] at H
         by_cases c57 : x13_2 < (t308.length : Int)
         ·rw [if_pos c57] at H
          have c57b0 : decide (x13_2 < (t308.length : Int)) = true := decide_eq_true c57
          clear c57
          by_cases c58 : 0 ≤ x13_2
          ·rw [if_pos c58] at H
           have c58b0 : decide (0 ≤ x13_2) = true := decide_eq_true c58
           clear c58
           have H' := Aside0.mk H
           clear H
           have p338 : 0 ≤ (x13_2 : Int) := of_decide_eq_true (by first | (with_reducible assumption) | assumption)
           have q338 : x13_2 < (t308.length : Int) := of_decide_eq_true (by first | (with_reducible assumption) | assumption)
           obtain ⟨ad338, A338_0, c338_0, e338, hx338_0, hl338_0, hi338_0⟩ := at_T61 (Kd.V_reads' HO_4.out).2.2 x13_2 p338 q338
           cases e338
           obtain ⟨ce338, hce338, hMe338, hcc338⟩ := Kd.V_get HO_4.out z61 x13_2 p338 (by first | exact q338 | exact of_decide_eq_true (by first | (with_reducible assumption) | assumption) | (have e_ := (Kd.V_reads' HO_4.out).1; omega))
           obtain ⟨ua338_0, uc338_0, rfl, ul338_0, ge338_0⟩ := k61_openF hMe338
           have hv338_0 := hcc338 0 _ rfl
           rw [Nat.add_zero, show (k61).sz = 1 from rfl, Nat.mul_one] at hv338_0
           replace hv338_0 := Option.some.inj (hv338_0.symm.trans hx338_0)
           injection hv338_0 with hva_ hvn_ hvc_
           rw [hva_] at ge338_0
           rw [hvc_] at ul338_0
           have HL338_0 := Aside0.mk (show Kd.V (Kd.int .i64) 3 _ w.heap.size _ _ ((rd_T61 t308 x13_2).f0) from Kd.V_mk ul338_0 ge338_0)
           clear hva_ hvn_ hvc_ ge338_0 ul338_0
           clear hcc338 hce338
           have HR338_0 := Aside0.mk hi338_0
           have HC338_0 := Aside0.mk hl338_0
           clear hi338_0 hl338_0
           replace p338 := eq_true p338
           replace q338 := eq_true q338
           go_wp2
           go_roundg k2
           case measure => have := HK1.out; have := HK2.out; omega
           case rel => exact ⟨(wrap64 (x12_2 + (((rd_T61 t308 x13_2).f0).length : Int))), (wrap64 (x13_2 + 1)), (by first | rfl | (simp; done) | (simp [*]; done)), (by first | rfl | (simp; done) | (simp [*]; done)), H', ⟨by have := HK1.out; have := HK2.out; omega⟩, ⟨kv_ HO_4⟩, ⟨kr_ HO_5⟩, ⟨kr_ HO_312001⟩, ⟨bk_ BK311⟩, ⟨bw1_ HB GE311.out⟩⟩
          ·rw [if_neg c58] at H
           exact absurd H (by simp)
         ·rw [if_neg c57] at H
          have c57b0 : decide (x13_2 < (t308.length : Int)) = false := decide_eq_false c57
          clear c57
          replace H := Option.bind_eq_some_iff.mp H
          obtain ⟨t339, A590, H⟩ := H
          replace H : (if (x6_1 == t339) = true then ((impl_GapsIn.f k2 t308).bind fun t340 => (if t340 ≤ x12_2 then (if (t312.length : Int) > 0 then (some true) else ((impl_HasCircle.f k2 t312).bind fun t341 => (some (!t341)))) else (some false))) else (some false)) = some r := H
          have A59 := Aside0.mk A590
          clear A590
          by_cases c60 : (x6_1 == t339) = true
          ·rw [if_pos c60] at H
           have c60b0 : (x6_1 == t339) = true := c60
           (try (have c60b1 : decide (x6_1 = t339) = true := by simpa using c60))
           (try (have c60b2 : (x6_1 == t339) = true := by simpa using c60))
           clear c60
           replace H := Option.bind_eq_some_iff.mp H
           obtain ⟨t340, A610, H⟩ := H
           replace H : (if t340 ≤ x12_2 then (if (t312.length : Int) > 0 then (some true) else ((impl_HasCircle.f k2 t312).bind fun t341 => (some (!t341)))) else (some false)) = some r := H
           have A61 := Aside0.mk A610
           clear A610
           by_cases c62 : t340 ≤ x12_2
           ·rw [if_pos c62] at H
            have c62b0 : decide (t340 ≤ x12_2) = true := decide_eq_true c62
            clear c62
            by_cases c63 : (t312.length : Int) > 0
            ·rw [if_pos c63] at H
             have c63b0 : decide (0 < (t312.length : Int)) = true := decide_eq_true c63
             have c63b1 : decide (0 < t312.length) = true := decide_eq_true (by omega)
             clear c63
             obtain rfl := Option.some.inj H
             have hcz64_0 : wr.cell? ⟨gb311, 0, none⟩ = some (.int .i64 t304) := (blk_cell BK311.out 0).trans rfl
             have hcz64_1 : wr.cell? ⟨gb311, 1, none⟩ = some (.slice Ao15 t305.length co15) := (blk_cell BK311.out 1).trans rfl
             have hfz64_0 := blk_frozen BK311.out 0
             have hfz64_1 := blk_frozen BK311.out 1
             go_wp2_with (first | ((with_reducible refine gate_callee (f := 36) rfl ?_); refine goesL_ (some 164) rfl rfl Try.func36 (by kernel_rfl) rfl #[.agg #[.int .i64 t304, .slice Ao15 t305.length co15], .slice Ao16 t308.length co16] rfl (by (try simp only [List.map_toArray, List.map_cons, List.map_nil]); first | done | rfl | (simp only [List.length_drop, List.length_take]; rfl)) ?_; (with_reducible refine (impl_FitsMap.calls k2 t304 _ _ t305 _ _ t308 t339 _ ?side1 ?side2 ?side3 ?side4 A59.out).mono ?_); (case side1 => repeat (first | exact (Kd.R_reads' HO_312001.out).2.2 | (with_reducible refine Kd.C_alloc ?_ _) | (with_reducible refine Kd.C_drewN ?_ _) | (with_reducible refine Kd.C_drew ?_))); (case side2 => exact (Kd.R_reads' HO_312001.out).2.1); (case side3 => repeat (first | exact (Kd.V_reads' HO_4.out).2.2 | (with_reducible refine Kd.C_alloc ?_ _) | (with_reducible refine Kd.C_drewN ?_ _) | (with_reducible refine Kd.C_drew ?_))); (case side4 => exact (Kd.V_reads' HO_4.out).2.1); rintro e w65 ⟨rfl, hb⟩; refine ⟨_, rfl, ?_⟩; have n0_ := Aside0.mk (Kd.V_below (kv_ HO_4) hb); have n1_ := Aside0.mk (Kd.R_below (kr_ HO_5) hb); have n2_ := Aside0.mk (Kd.R_below (kr_ HO_312001) hb); have n3_ := Aside0.mk (blk_below (g := gb311) (o := .cells #[.int .i64 t304, .slice Ao15 t305.length co15] 54 (0, 0)) (bk_ BK311) hb); have n4_ := Aside0.mk (below_step (bw1_ HB GE311.out) hb); clear HO_4; clear HO_5; clear HO_312001; clear BK311; clear HB; have HO_4 := n0_; have HO_5 := n1_; have HO_312001 := n2_; have BK311 := n3_; have HB := n4_; clear n0_ n1_ n2_ n3_ n4_; (try clear hb); (try clear hb2); (try clear hk); (try clear hi)) | (go_at_call 39; (with_reducible refine (impl_GapsIn.calls k2 _ _ t308 t340 _ ?side1 ?side2 A61.out).mono ?_); (case side1 => repeat (first | exact (Kd.V_reads' HO_4.out).2.2 | (with_reducible refine Kd.C_alloc ?_ _) | (with_reducible refine Kd.C_drewN ?_ _) | (with_reducible refine Kd.C_drew ?_))); (case side2 => exact (Kd.V_reads' HO_4.out).2.1); rintro e w66 ⟨rfl, hb⟩; have n0_ := Aside0.mk (Kd.V_below (kv_ HO_4) hb); have n1_ := Aside0.mk (Kd.R_below (kr_ HO_5) hb); have n2_ := Aside0.mk (Kd.R_below (kr_ HO_312001) hb); have n3_ := Aside0.mk (blk_below (g := gb311) (o := .cells #[.int .i64 t304, .slice Ao15 t305.length co15] 54 (0, 0)) (bk_ BK311) hb); have n4_ := Aside0.mk (below_step (bw1_ HB GE311.out) hb); clear HO_4; clear HO_5; clear HO_312001; clear BK311; clear HB; have HO_4 := n0_; have HO_5 := n1_; have HO_312001 := n2_; have BK311 := n3_; have HB := n4_; clear n0_ n1_ n2_ n3_ n4_; (try clear hb); (try clear hb2); (try clear hk); (try clear hi)))
             go_ret
             exact ⟨by first | rfl | (simp [errW_none, errW_some] <;> rfl) | (simp [*, errW_none, errW_some] <;> rfl), bw1_ HB GE311.out⟩
            ·rw [if_neg c63] at H
             have c63b0 : decide (0 < (t312.length : Int)) = false := decide_eq_false c63
             have c63b1 : decide (0 < t312.length) = false := decide_eq_false (by omega)
             clear c63
             replace H := Option.bind_eq_some_iff.mp H
             obtain ⟨t341, A670, H⟩ := H
             replace H : (some (!t341)) = some r := H
             have A67 := Aside0.mk A670
             clear A670
             obtain rfl := Option.some.inj H
             have hcz68_0 : wr.cell? ⟨gb311, 0, none⟩ = some (.int .i64 t304) := (blk_cell BK311.out 0).trans rfl
             have hcz68_1 : wr.cell? ⟨gb311, 1, none⟩ = some (.slice Ao15 t305.length co15) := (blk_cell BK311.out 1).trans rfl
             have hfz68_0 := blk_frozen BK311.out 0
             have hfz68_1 := blk_frozen BK311.out 1
             go_wp2_with (first | ((with_reducible refine gate_callee (f := 36) rfl ?_); refine goesL_ (some 164) rfl rfl Try.func36 (by kernel_rfl) rfl #[.agg #[.int .i64 t304, .slice Ao15 t305.length co15], .slice Ao16 t308.length co16] rfl (by (try simp only [List.map_toArray, List.map_cons, List.map_nil]); first | done | rfl | (simp only [List.length_drop, List.length_take]; rfl)) ?_; (with_reducible refine (impl_FitsMap.calls k2 t304 _ _ t305 _ _ t308 t339 _ ?side1 ?side2 ?side3 ?side4 A59.out).mono ?_); (case side1 => repeat (first | exact (Kd.R_reads' HO_312001.out).2.2 | (with_reducible refine Kd.C_alloc ?_ _) | (with_reducible refine Kd.C_drewN ?_ _) | (with_reducible refine Kd.C_drew ?_))); (case side2 => exact (Kd.R_reads' HO_312001.out).2.1); (case side3 => repeat (first | exact (Kd.V_reads' HO_4.out).2.2 | (with_reducible refine Kd.C_alloc ?_ _) | (with_reducible refine Kd.C_drewN ?_ _) | (with_reducible refine Kd.C_drew ?_))); (case side4 => exact (Kd.V_reads' HO_4.out).2.1); rintro e w69 ⟨rfl, hb⟩; refine ⟨_, rfl, ?_⟩; have n0_ := Aside0.mk (Kd.V_below (kv_ HO_4) hb); have n1_ := Aside0.mk (Kd.R_below (kr_ HO_5) hb); have n2_ := Aside0.mk (Kd.R_below (kr_ HO_312001) hb); have n3_ := Aside0.mk (blk_below (g := gb311) (o := .cells #[.int .i64 t304, .slice Ao15 t305.length co15] 54 (0, 0)) (bk_ BK311) hb); have n4_ := Aside0.mk (below_step (bw1_ HB GE311.out) hb); clear HO_4; clear HO_5; clear HO_312001; clear BK311; clear HB; have HO_4 := n0_; have HO_5 := n1_; have HO_312001 := n2_; have BK311 := n3_; have HB := n4_; clear n0_ n1_ n2_ n3_ n4_; (try clear hb); (try clear hb2); (try clear hk); (try clear hi)) | (go_at_call 39; (with_reducible refine (impl_GapsIn.calls k2 _ _ t308 t340 _ ?side1 ?side2 A61.out).mono ?_); (case side1 => repeat (first | exact (Kd.V_reads' HO_4.out).2.2 | (with_reducible refine Kd.C_alloc ?_ _) | (with_reducible refine Kd.C_drewN ?_ _) | (with_reducible refine Kd.C_drew ?_))); (case side2 => exact (Kd.V_reads' HO_4.out).2.1); rintro e w70 ⟨rfl, hb⟩; have n0_ := Aside0.mk (Kd.V_below (kv_ HO_4) hb); have n1_ := Aside0.mk (Kd.R_below (kr_ HO_5) hb); have n2_ := Aside0.mk (Kd.R_below (kr_ HO_312001) hb); have n3_ := Aside0.mk (blk_below (g := gb311) (o := .cells #[.int .i64 t304, .slice Ao15 t305.length co15] 54 (0, 0)) (bk_ BK311) hb); have n4_ := Aside0.mk (below_step (bw1_ HB GE311.out) hb); clear HO_4; clear HO_5; clear HO_312001; clear BK311; clear HB; have HO_4 := n0_; have HO_5 := n1_; have HO_312001 := n2_; have BK311 := n3_; have HB := n4_; clear n0_ n1_ n2_ n3_ n4_; (try clear hb); (try clear hb2); (try clear hk); (try clear hi)) | (go_at_call 40; (with_reducible refine (impl_HasCircle.calls k2 _ _ t312 t341 _ ?side1 ?side2 A67.out).mono ?_); (case side1 => repeat (first | exact (Kd.R_reads' HO_5.out).2.2 | (with_reducible refine Kd.C_alloc ?_ _) | (with_reducible refine Kd.C_drewN ?_ _) | (with_reducible refine Kd.C_drew ?_))); (case side2 => exact (Kd.R_reads' HO_5.out).2.1); rintro e w71 ⟨rfl, hb⟩; have n0_ := Aside0.mk (Kd.V_below (kv_ HO_4) hb); have n1_ := Aside0.mk (Kd.R_below (kr_ HO_5) hb); have n2_ := Aside0.mk (Kd.R_below (kr_ HO_312001) hb); have n3_ := Aside0.mk (blk_below (g := gb311) (o := .cells #[.int .i64 t304, .slice Ao15 t305.length co15] 54 (0, 0)) (bk_ BK311) hb); have n4_ := Aside0.mk (below_step (bw1_ HB GE311.out) hb); clear HO_4; clear HO_5; clear HO_312001; clear BK311; clear HB; have HO_4 := n0_; have HO_5 := n1_; have HO_312001 := n2_; have BK311 := n3_; have HB := n4_; clear n0_ n1_ n2_ n3_ n4_; (try clear hb); (try clear hb2); (try clear hk); (try clear hi)))
             go_ret
             exact ⟨by first | rfl | (simp [errW_none, errW_some] <;> rfl) | (simp [*, errW_none, errW_some] <;> rfl), bw1_ HB GE311.out⟩
           ·rw [if_neg c62] at H
            have c62b0 : decide (t340 ≤ x12_2) = false := decide_eq_false c62
            clear c62
            exact absurd ((Option.some.inj H).trans hrt.out) (by decide)
          ·rw [if_neg c60] at H
           have c60b0 : (x6_1 == t339) = false := by simpa using c60
           (try (have c60b1 : decide (x6_1 = t339) = false := by simpa using c60))
           (try (have c60b2 : (x6_1 == t339) = false := by simpa using c60))
           (try (have c60b3 : ¬ (x6_1 = t339) := by simpa using c60))
           clear c60
           exact absurd ((Option.some.inj H).trans hrt.out) (by decide)
   ·replace c10 := Bool.eq_false_iff.mpr c10
    subst c10
    have H1 : (if (t312.length : Int) = 0 then ((impl_FitsMap.f k t304 t305 t308).bind fun t318 => (some (!t318))) else (some false)) = some r := by rw [if_neg (show ¬ (false = true) by decide)] at H; exact H
    clear H
    have H := H1
    clear H1
    by_cases c72 : (t312.length : Int) = 0
    ·rw [if_pos c72] at H
     have c72b0 : ((t312.length : Int) == 0) = true := beq_iff_eq.mpr c72
     have c72b1 : ((t312.length : Int) != 0) = false := bne_eq_false_iff_eq.mpr c72
     clear c72
     replace H := Option.bind_eq_some_iff.mp H
     obtain ⟨t318, A730, H⟩ := H
     replace H : (some (!t318)) = some r := H
     have A73 := Aside0.mk A730
     clear A730
     obtain rfl := Option.some.inj H
     go_enter Try.func6, Try.ntmps6
     go_wp2_with (first | ((with_reducible refine gate_callee (f := 16) rfl ?_); refine goesL_ (some 15) rfl rfl Try.func16 (by kernel_rfl) rfl #[.slice A0 l0.length c0] rfl (by (try simp only [List.map_toArray, List.map_cons, List.map_nil]); first | done | rfl | (simp only [List.length_drop, List.length_take]; rfl)) ?_; (with_reducible refine (laws_big.calls _ _ l0 false _ ?side1 ?side2 A2.out).mono ?_); (case side1 => repeat (first | exact HR0.out | (with_reducible refine Kd.C_alloc ?_ _) | (with_reducible refine Kd.C_drewN ?_ _) | (with_reducible refine Kd.C_drew ?_))); (case side2 => exact HC0.out); rintro e w' ⟨rfl, ⟨nd, rfl⟩⟩; refine ⟨_, rfl, ?_⟩) | ((with_reducible refine gate_callee (f := 33) rfl ?_); refine goesL_ (some 18) rfl rfl Try.func33 (by kernel_rfl) rfl #[.slice A0 l0.length c0] rfl (by (try simp only [List.map_toArray, List.map_cons, List.map_nil]); first | done | rfl | (simp only [List.length_drop, List.length_take]; rfl)) ?_; (with_reducible refine (spec_DrawFitsMap.calls k _ _ l0 t304 t305 t308 _ ?side1 ?side2 A4.out).mono ?_); (case side1 => repeat (first | exact HR0.out | (with_reducible refine Kd.C_alloc ?_ _) | (with_reducible refine Kd.C_drewN ?_ _) | (with_reducible refine Kd.C_drew ?_))); (case side2 => exact HC0.out); rintro e w74 ⟨v306, v309, rfl, ho0, ho1, hb⟩; refine ⟨_, rfl, ?_⟩; have n0_ := Aside0.mk (Kd.R_lower (Kd.R_mono (ok' := fun k_ => True) ho0 (fun _ hk_ => trivial)) (below_size (bw0_ HB))); have n1_ := Aside0.mk (Kd.V_lower (Kd.V_mono (ok' := fun k_ => some k_ ≠ (v306 : Value).ownBlock) ho1 (fun k_ hk_ => hk_.2)) (below_size (bw0_ HB))); have n2_ := Aside0.mk (below_step (bw0_ HB) hb); clear HB; have HO307 := n0_; have HO310 := n1_; have HB := n2_; clear n0_ n1_ n2_; (try clear hb); (try clear hb2); (try clear hk); (try clear hi); (try clear ho0); (try clear ho1)) | ((with_reducible refine gate_dst (N := 3) rfl ?_); (try (refine gate_guard (by rfl) ?_; dsimp only)); refine box_event ?hg (N := 3) ?hd (cs := #[.int .i64 0, .slice none 0 0]) (t := 54) ?hr ?_; (case hd => rfl); (case hg => rfl); (case hr => first | (go_simp; done) | (go_simp; rfl)); intro gb311 hg w75 hbox hb; have n0_ := Aside0.mk (Kd.R_below (kr_ HO307) hb); have n1_ := Aside0.mk (Kd.V_below (Kd.V_elderB (kv_ HO310) gb311 (Nat.le_of_eq hg.symm)) hb); have n2_ := Aside0.mk (below_step (bw0_ HB) hb); have n3_ := Aside0.mk (hbox); have n4_ := Aside0.mk ((by rw [hg]; exact (below_size (bw0_ HB)) : w.heap.size ≤ gb311)); have n5_ := Aside0.mk ((by rw [hg]; exact (below_size (bw0_ HB)) : w.heap.size ≤ gb311)); clear HO307; clear HO310; clear HB; have HO307 := n0_; have HO310 := n1_; have HB := n2_; have BK311 := n3_; have GW311 := n4_; have GE311 := n5_; clear n0_ n1_ n2_ n3_ n4_ n5_; clear hb hbox hg; have hcz76_0 : w75.cell? ⟨gb311, 0, none⟩ = some (.int .i64 0) := (blk_cell BK311.out 0).trans rfl; have hcz76_1 : w75.cell? ⟨gb311, 1, none⟩ = some (.slice none 0 0) := (blk_cell BK311.out 1).trans rfl; have hfz76_0 := blk_frozen BK311.out 0; have hfz76_1 := blk_frozen BK311.out 1; obtain ⟨Ao77, co77, eo77⟩ := Kd.R_slice HO307.out; subst eo77; obtain ⟨Ao78, co78, eo78⟩ := Kd.V_slice HO310.out; subst eo78) | ((with_reducible refine gate_callee (f := 27) rfl ?_); refine goesL_ (some 22) rfl rfl Try.func27 (by kernel_rfl) rfl #[.slice Ao78 t308.length co78] rfl (by (try simp only [List.map_toArray, List.map_cons, List.map_nil]); first | done | rfl | (simp only [List.length_drop, List.length_take]; rfl)) ?_; (with_reducible refine (impl_MapOf.calls k _ _ t308 t312 _ ?side1 ?side2 A5.out).mono ?_); (case side1 => refine (Kd.V_reads' (e := 61) (base := w.heap.size) (ok := fun k_ => (some k_ ≠ (.slice Ao77 t305.length co77 : Value).ownBlock ∧ k_ ≠ gb311)) (n := t308.length) (c := co78) ?_).2.2; exact (by (with_reducible repeat (first | apply Kd.V_alloc | apply Kd.V_drewN | apply Kd.V_drew)); exact (Kd.V_mono (Kd.V_far (p := ⟨gb311, 1, none⟩) (Kd.V_far (p := ⟨gb311, 0, none⟩) (Kd.V_mono HO310.out (fun k_ hk => (⟨hk, hk.2⟩ : _ ∧ k_ ≠ gb311))) (fun _ hk => hk.2) (.int .i64 t304)) (fun _ hk => hk.2) (.slice Ao77 t305.length co77)) (fun _ h_ => h_.1)))); (case side2 => exact (Kd.V_reads' HO310.out).2.1); rintro e w79 ⟨v313, rfl, ho0, hb⟩; refine ⟨_, rfl, ?_⟩; have n0_ := Aside0.mk (Kd.R_elder' (by (with_reducible repeat (first | apply Kd.R_alloc | apply Kd.R_drewN | apply Kd.R_drew)); exact (Kd.R_mono (Kd.R_far (p := ⟨gb311, 1, none⟩) (Kd.R_far (p := ⟨gb311, 0, none⟩) (Kd.R_types HO307.out BK311.out (by decide)) (fun _ hk => hk.2) (.int .i64 t304)) (fun _ hk => hk.2) (.slice Ao77 t305.length co77)) (fun _ h_ => h_.1))) (Kd.R_base ho0) hb); have n1_ := Aside0.mk (Kd.V_elder' (by (with_reducible repeat (first | apply Kd.V_alloc | apply Kd.V_drewN | apply Kd.V_drew)); exact (Kd.V_mono (Kd.V_far (p := ⟨gb311, 1, none⟩) (Kd.V_far (p := ⟨gb311, 0, none⟩) (Kd.V_mono HO310.out (fun k_ hk => (⟨hk, hk.2⟩ : _ ∧ k_ ≠ gb311))) (fun _ hk => hk.2) (.int .i64 t304)) (fun _ hk => hk.2) (.slice Ao77 t305.length co77)) (fun _ h_ => h_.1))) (Kd.R_base ho0) hb); have n2_ := Aside0.mk (Kd.R_lower (Kd.R_new' ho0 (Kd.R_lt (by (with_reducible repeat (first | apply Kd.R_alloc | apply Kd.R_drewN | apply Kd.R_drew)); exact (Kd.R_mono (Kd.R_far (p := ⟨gb311, 1, none⟩) (Kd.R_far (p := ⟨gb311, 0, none⟩) (Kd.R_types HO307.out BK311.out (by decide)) (fun _ hk => hk.2) (.int .i64 t304)) (fun _ hk => hk.2) (.slice Ao77 t305.length co77)) (fun _ h_ => h_.1))))) (below_size (bw1_ HB GE311.out))); have n3_ := Aside0.mk (blk_below (g := gb311) (o := .cells #[.int .i64 t304, .slice Ao77 t305.length co77] 54 (0, 0)) (by (with_reducible repeat (first | refine blk_drewN ?_ _ | refine blk_drew ?_ | refine blk_alloc ?_ _)); refine blk_put (cs := #[.int .i64 t304, .slice none 0 0]) ?_ 1 _ rfl; (with_reducible repeat (first | refine blk_drewN ?_ _ | refine blk_drew ?_ | refine blk_alloc ?_ _)); refine blk_put (cs := #[.int .i64 0, .slice none 0 0]) ?_ 0 _ rfl; (with_reducible repeat (first | refine blk_drewN ?_ _ | refine blk_drew ?_ | refine blk_alloc ?_ _)); exact BK311.out) hb); have n4_ := Aside0.mk (below_step (bw1_ HB GE311.out) hb); clear HO307; clear HO310; clear BK311; clear HB; have HO307 := n0_; have HO310 := n1_; have HO314 := n2_; have BK311 := n3_; have HB := n4_; clear n0_ n1_ n2_ n3_ n4_; (try clear hb); (try clear hb2); (try clear hk); (try clear hi); (try clear ho0)) | ((with_reducible refine gate_callee (f := 34) rfl ?_); refine goesL_ (some 24) rfl rfl Try.func34 (by kernel_rfl) rfl #[.slice Ao78 t308.length co78] rfl (by (try simp only [List.map_toArray, List.map_cons, List.map_nil]); first | done | rfl | (simp only [List.length_drop, List.length_take]; rfl)) ?_; (with_reducible refine (impl_AreTraces.calls k _ _ t308 t315 _ ?side1 ?side2 A6.out).mono ?_); (case side1 => repeat (first | exact (Kd.V_reads' HO310.out).2.2 | (with_reducible refine Kd.C_alloc ?_ _) | (with_reducible refine Kd.C_drewN ?_ _) | (with_reducible refine Kd.C_drew ?_))); (case side2 => exact (Kd.V_reads' HO310.out).2.1); rintro e w80 ⟨rfl, hb⟩; refine ⟨_, rfl, ?_⟩; have n0_ := Aside0.mk (Kd.R_below (kr_ HO307) hb); have n1_ := Aside0.mk (Kd.V_below (kv_ HO310) hb); have n2_ := Aside0.mk (Kd.R_below (kr_ HO314) hb); have n3_ := Aside0.mk (blk_below (g := gb311) (o := .cells #[.int .i64 t304, .slice Ao77 t305.length co77] 54 (0, 0)) (bk_ BK311) hb); have n4_ := Aside0.mk (below_step (bw1_ HB GE311.out) hb); clear HO307; clear HO310; clear HO314; clear BK311; clear HB; have HO307 := n0_; have HO310 := n1_; have HO314 := n2_; have BK311 := n3_; have HB := n4_; clear n0_ n1_ n2_ n3_ n4_; (try clear hb); (try clear hb2); (try clear hk); (try clear hi)) | ((with_reducible refine gate_callee (f := 35) rfl ?_); refine goesL_ (some 26) rfl rfl Try.func35 (by kernel_rfl) rfl #[.slice Ao78 t308.length co78] rfl (by (try simp only [List.map_toArray, List.map_cons, List.map_nil]); first | done | rfl | (simp only [List.length_drop, List.length_take]; rfl)) ?_; (with_reducible refine (spec_AreTraces.calls k _ _ t308 t316 _ ?side1 ?side2 A7.out).mono ?_); (case side1 => repeat (first | exact (Kd.V_reads' HO310.out).2.2 | (with_reducible refine Kd.C_alloc ?_ _) | (with_reducible refine Kd.C_drewN ?_ _) | (with_reducible refine Kd.C_drew ?_))); (case side2 => exact (Kd.V_reads' HO310.out).2.1); rintro e w' ⟨rfl, ⟨nd, rfl⟩⟩; refine ⟨_, rfl, ?_⟩) | ((with_reducible refine gate_callee (f := 34) rfl ?_); refine goesL_ (some 29) rfl rfl Try.func34 (by kernel_rfl) rfl #[.slice Ao78 t308.length co78] rfl (by (try simp only [List.map_toArray, List.map_cons, List.map_nil]); first | done | rfl | (simp only [List.length_drop, List.length_take]; rfl)) ?_; (with_reducible refine (impl_AreTraces.calls k _ _ t308 false _ ?side1 ?side2 A9.out).mono ?_); (case side1 => repeat (first | exact (Kd.V_reads' HO310.out).2.2 | (with_reducible refine Kd.C_alloc ?_ _) | (with_reducible refine Kd.C_drewN ?_ _) | (with_reducible refine Kd.C_drew ?_))); (case side2 => exact (Kd.V_reads' HO310.out).2.1); rintro e w81 ⟨rfl, hb⟩; refine ⟨_, rfl, ?_⟩; have n0_ := Aside0.mk (Kd.R_below (kr_ HO307) hb); have n1_ := Aside0.mk (Kd.V_below (kv_ HO310) hb); have n2_ := Aside0.mk (Kd.R_below (kr_ HO314) hb); have n3_ := Aside0.mk (blk_below (g := gb311) (o := .cells #[.int .i64 t304, .slice Ao77 t305.length co77] 54 (0, 0)) (bk_ BK311) hb); have n4_ := Aside0.mk (below_step (bw1_ HB GE311.out) hb); clear HO307; clear HO310; clear HO314; clear BK311; clear HB; have HO307 := n0_; have HO310 := n1_; have HO314 := n2_; have BK311 := n3_; have HB := n4_; clear n0_ n1_ n2_ n3_ n4_; (try clear hb); (try clear hb2); (try clear hk); (try clear hi); obtain ⟨Ao82, co82, eo82⟩ := Kd.R_slice HO314.out; subst eo82; have hcz83_0 : w81.cell? ⟨gb311, 0, none⟩ = some (.int .i64 t304) := (blk_cell BK311.out 0).trans rfl; have hcz83_1 : w81.cell? ⟨gb311, 1, none⟩ = some (.slice Ao77 t305.length co77) := (blk_cell BK311.out 1).trans rfl; have hfz83_0 := blk_frozen BK311.out 0; have hfz83_1 := blk_frozen BK311.out 1) | (go_at_call 36; (with_reducible refine (impl_FitsMap.calls k t304 _ _ t305 _ _ t308 t318 _ ?side1 ?side2 ?side3 ?side4 A73.out).mono ?_); (case side1 => repeat (first | exact (Kd.R_reads' HO307.out).2.2 | (with_reducible refine Kd.C_alloc ?_ _) | (with_reducible refine Kd.C_drewN ?_ _) | (with_reducible refine Kd.C_drew ?_))); (case side2 => exact (Kd.R_reads' HO307.out).2.1); (case side3 => repeat (first | exact (Kd.V_reads' HO310.out).2.2 | (with_reducible refine Kd.C_alloc ?_ _) | (with_reducible refine Kd.C_drewN ?_ _) | (with_reducible refine Kd.C_drew ?_))); (case side4 => exact (Kd.V_reads' HO310.out).2.1); rintro e w84 ⟨rfl, hb⟩; have n0_ := Aside0.mk (Kd.R_below (kr_ HO307) hb); have n1_ := Aside0.mk (Kd.V_below (kv_ HO310) hb); have n2_ := Aside0.mk (Kd.R_below (kr_ HO314) hb); have n3_ := Aside0.mk (blk_below (g := gb311) (o := .cells #[.int .i64 t304, .slice Ao77 t305.length co77] 54 (0, 0)) (bk_ BK311) hb); have n4_ := Aside0.mk (below_step (bw1_ HB GE311.out) hb); clear HO307; clear HO310; clear HO314; clear BK311; clear HB; have HO307 := n0_; have HO310 := n1_; have HO314 := n2_; have BK311 := n3_; have HB := n4_; clear n0_ n1_ n2_ n3_ n4_; (try clear hb); (try clear hb2); (try clear hk); (try clear hi)))
     go_ret
     exact ⟨by first | rfl | (simp [errW_none, errW_some] <;> rfl) | (simp [*, errW_none, errW_some] <;> rfl), bw1_ HB GE311.out⟩
    ·rw [if_neg c72] at H
     have c72b0 : ((t312.length : Int) == 0) = false := beq_eq_false_iff_ne.mpr c72
     have c72b1 : ((t312.length : Int) != 0) = true := bne_iff_ne.mpr c72
     have c72b2 : ¬ (t312 = []) := fun h_ => c72 (by rw [h_]; rfl)
     exact absurd ((Option.some.inj H).trans hrt.out) (by decide)

end Go.Proofs.Ytgghhcifkgdpeaa.Z
