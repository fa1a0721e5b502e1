/- A part of the proof that the law FnExactSwap holds for every input: the words, functions and walks that its row needs, without a condition of their own. -/
import Derived.Test.YthbcnakmnbilhaaZFnExactSwapa2
import Derived.Test.YthbcnakmnbilhaaZFnExactSwapa3
import Derived.Test.YthbcnakmnbilhaaZFnExactSwapa4
import Derived.Test.YthbcnakmnbilhaaZFnExactSwapa5
import Derived.Test.YthbcnakmnbilhaaZFnExactSwapa6
import Derived.Test.YthbcnakmnbilhaaZFnExactSwapa8
import Derived.Test.YthbcnakmnbilhaaZFnExactSwapa12
namespace Go.Proofs.Ythbcnakmnbilhaa.PFnExactSwap
open Go.RowKit Go.Proofs.YthbcnakmnbilhaaW.PrintWords Go.Proofs.YthbcnakmnbilhaaW.PrintLast Go.Proofs.YthbcnakmnbilhaaW.PrintMore Go.Proofs.Ythbcnakmnbilhaa.Marks
set_option linter.unusedVariables false
set_option linter.unusedSimpArgs false
def wt43 (x : S43) : Nat := (fun q : _ => 1 + (wsum (fun _ => 1) (q.2))) ((x.f0, x.f1))
def laws_FnExactSwap.f (k : Nat) (l0_0 : List (List (S139))) (l1 : List Int) (a2 : Int) (a3 : Int) : Option Bool := if (l1.length : Int) > 1048576 then some true else (laws_szMemory.f k l0_0 1048576).bind fun t1 => if t1 < 0 then some true else (laws_toMemory.f k l0_0).bind fun t2 => (laws_toIntS.f k l1).bind fun t3 => (spec_Swap.f k t2 t3 a2 a3).bind fun bA5 => (laws_toMemory.f k l0_0).bind fun t7 => (laws_toIntS.f k l1).bind fun t8 => (impl_Swap.f k t7 t8 a2 a3).bind fun bA12 => if bA12.2.2 = bA5.2.2 then (laws_eqMemory.f k bA12.1 bA5.1).bind fun eA15 => if eA15 = true then (laws_eqIntS.f k bA12.2.1 bA5.2.1).bind fun eA16 => if eA16 = true then (laws_toMemory.f k l0_0).bind fun t12 => (laws_eqMemory.f k t7 t12).bind fun eA19 => if eA19 = true then (laws_toIntS.f k l1).bind fun t13 => (laws_eqIntS.f k t8 t13).bind fun eA21 => if eA21 = true then if wsum (wsum wt43) t7 ≤ 1152921504606846976 then if wsum (fun _ => 1) t8 ≤ 1152921504606846976 then (laws_eqMemory.f k bA12.1 bA5.1).bind fun eA24 => if eA24 = true then (laws_eqIntS.f k bA12.2.1 bA5.2.1).bind fun eA25 => if eA25 = true then if wsum (wsum wt43) bA12.1 ≤ 1152921504606846976 then if wsum (fun _ => 1) bA12.2.1 ≤ 1152921504606846976 then (laws_toMemory.f k l0_0).bind fun t14 => (laws_toIntS.f k l1).bind fun t15 => (impl_Swap.f k t14 t15 a2 a3).bind fun bA32 => if bA32.2.2 = bA5.2.2 then (laws_eqMemory.f k bA32.1 bA5.1).bind fun eA35 => if eA35 = true then (laws_eqIntS.f k bA32.2.1 bA5.2.1).bind fun eA36 => if eA36 = true then some true else some false else some false else some false else none else none else some false else some false else none else none else some false else some false else some false else some false else some false
end Go.Proofs.Ythbcnakmnbilhaa.PFnExactSwap
