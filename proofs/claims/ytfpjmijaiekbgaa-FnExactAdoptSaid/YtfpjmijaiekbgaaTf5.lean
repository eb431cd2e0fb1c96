/- A symbolic executor over the model, proved sound: part 5. -/
import Derived.Test.YtfpjmijaiekbgaaTf4

/- The types of data of this program. -/
namespace Go.Tf
abbrev tI : Ty := (.int .i64)
abbrev tL : Ty := (.sl tI)
abbrev tLL : Ty := (.sl tL)
abbrev tW : Ty := (.st 32 (.pr tI tL))
abbrev tWs : Ty := (.sl tW)
abbrev tB : Ty := .bool
abbrev tM : Ty := (.st 80 (.pr tLL (.pr tWs (.pr tB tL))))
abbrev tMs : Ty := (.sl tM)
abbrev tG : Ty := (.st 16 (.pr tI tI))
abbrev tA : Ty := (.st 128 (.pr tI (.pr tG (.pr tMs (.pr tI (.pr tI (.pr tI (.pr tI (.pr tI (.pr tWs (.pr tI (.pr tB tB))))))))))))
abbrev tC : Ty := (.st 56 (.pr tI (.pr tI (.pr tI (.pr tI tL)))))
abbrev tCs : Ty := (.sl tC)
abbrev tN : Ty := (.st 40 (.pr tI (.pr tI tL)))
abbrev tNs : Ty := (.sl tN)
abbrev tY : Ty := (.int .u8)
abbrev tYs : Ty := (.sl tY)
abbrev tU : Ty := (.st 40 (.pr tYs (.pr tI tI)))
abbrev tS : Ty := (.st 64 (.pr tI (.pr tI (.pr tI (.pr tI (.pr tI (.pr tI (.pr tI tI))))))))
abbrev dI : Type := Int
abbrev dL : Type := List Int
abbrev dLL : Type := List (List Int)
abbrev dW : Type := Int × (List Int)
abbrev dWs : Type := List (Int × (List Int))
abbrev dB : Type := Bool
abbrev dM : Type := (List (List Int)) × (List (Int × (List Int))) × Bool × (List Int)
abbrev dMs : Type := List ((List (List Int)) × (List (Int × (List Int))) × Bool × (List Int))
abbrev dG : Type := Int × Int
abbrev dA : Type := Int × (Int × Int) × (List ((List (List Int)) × (List (Int × (List Int))) × Bool × (List Int))) × Int × Int × Int × Int × Int × (List (Int × (List Int))) × Int × Bool × Bool
abbrev dC : Type := Int × Int × Int × Int × (List Int)
abbrev dCs : Type := List (Int × Int × Int × Int × (List Int))
abbrev dN : Type := Int × Int × (List Int)
abbrev dNs : Type := List (Int × Int × (List Int))
abbrev dY : Type := Int
abbrev dYs : Type := List Int
abbrev dU : Type := (List Int) × Int × Int
abbrev dS : Type := Int × Int × Int × Int × Int × Int × Int × Int
end Go.Tf
