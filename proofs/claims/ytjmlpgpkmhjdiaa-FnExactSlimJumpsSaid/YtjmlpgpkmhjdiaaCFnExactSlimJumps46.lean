import Derived.Test.YtjmlpgpkmhjdiaaCFnExactSlimJumps21
import Derived.Test.YtjmlpgpkmhjdiaaCFnExactSlimJumps45
import Derived.Test.YtjmlpgpkmhjdiaaRows
namespace Go.Proofs.Ytjmlpgpkmhjdiaa.KindsSlim
open Go.RowKit Go.ChangeShapes Go.WideShapes Go.Proofs.YtjmlpgpkmhjdiaaW.PrintWords Go.Proofs.YtjmlpgpkmhjdiaaW.PrintLast Go.Proofs.YtjmlpgpkmhjdiaaW.PrintMore Go.Proofs.Ytjmlpgpkmhjdiaa.Open Go.Proofs.Ytjmlpgpkmhjdiaa.GSlim
theorem opensI {H : Type} {enc : TypeId × Value → H} {w : World} {base : Nat} {spare : Nat → Bool} {held : Bool} : Opens enc Try.prog w base spare held (Kd.int .i64) Num 3 := opens_int Try.underlying3 (by kernel_rfl)
def InsN (s : S59) : Prop := Num s.f0 ∧ Num s.f1 ∧ Num s.f2 ∧ Num s.f3
theorem opens59 {H : Type} {enc : TypeId × Value → H} {w : World} {base : Nat} {spare : Nat → Bool} {held : Bool} : Opens enc Try.prog w base spare held k59 InsN 59 :=
  opens_iso (fun x : S59 => (x.f0, x.f1, x.f2, x.f3)) (fun z => ⟨z.1, z.2.1, z.2.2.1, z.2.2.2⟩) (fun _ => rfl) (opens_struct Try.underlying59 (by kernel_rfl) (by kernel_rfl) (opensF_cons opensI (opensF_cons opensI (opensF_cons opensI (opensF_one opensI)))))
end Go.Proofs.Ytjmlpgpkmhjdiaa.KindsSlim
