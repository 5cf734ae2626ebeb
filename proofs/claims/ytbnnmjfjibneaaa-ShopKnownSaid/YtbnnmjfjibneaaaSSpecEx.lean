/- Plain words of the shop layer: the document's example. No conditions. -/
import Derived.Test.YtbnnmjfjibneaaaSSpec6
set_option linter.unusedSimpArgs false
set_option linter.unusedVariables false
namespace Go.Rt.Sh
def nAlta : ByteArray := ⟨#[97, 108, 116, 97]⟩
def nBaja : ByteArray := ⟨#[98, 97, 106, 97]⟩
def nApple : ByteArray := ⟨#[97, 112, 112, 108, 101]⟩
def nBerry : ByteArray := ⟨#[98, 101, 114, 114, 121]⟩
def nCherry : ByteArray := ⟨#[99, 104, 101, 114, 114, 121]⟩
def exM (x y : Int) : Market := ⟨[⟨nAlta, 20, 25, x, 4⟩, ⟨nBaja, 10, 10, 3, 6⟩], [⟨nApple, 5, 15⟩, ⟨nBerry, 5, y⟩, ⟨nCherry, 8, 8⟩], [⟨0, 0, 1, 20⟩, ⟨0, 1, 2, 8⟩, ⟨1, 1, 1, 6⟩, ⟨1, 2, 2, 10⟩, ⟨0, 2, 2, 9⟩]⟩
theorem ex_goes : goesP (exM 2 10) = ([0, 1, 2, 3], 0) := by decide +kernel
theorem ex_can1 : canP (exM 2 10) [0, 1, 2] = (0, 0) := by decide +kernel
theorem ex_can2 : canP (exM 2 10) [1, 2] = (1, 0) := by decide +kernel
theorem ex_can3 : canP (exM 3 15) [1] = (2, 0) := by decide +kernel
theorem ex_can4 : canP (exM 2 10) [1, 0] = (0, 2) := by decide +kernel
theorem ex_proof1 : proofP (exM 2 10) [0, 1, 2] = ([0, 1, 2], 3, 0) := by decide +kernel
theorem ex_proof2 : proofP (exM 2 10) [1, 2] = ([], 0, 9) := by decide +kernel
theorem ex_without : withoutP (exM 2 10) = ([0], 0) := by decide +kernel
theorem ex_give : giveP (exM 2 10) = ([0, 8, 2, 8, 0], 0) := by decide +kernel
theorem ex_more : moreP (exM 2 10) 0 = (3, 0) := by decide +kernel
theorem ex_late : lateP (exM 3 10) 1 = (5, 0) := by decide +kernel
end Go.Rt.Sh
