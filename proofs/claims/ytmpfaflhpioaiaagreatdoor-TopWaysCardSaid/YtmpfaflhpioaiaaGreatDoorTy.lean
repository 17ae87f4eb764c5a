/- The types of the program, as the engine wants them: written by a program off the load. -/
import Derived.Test.YtmpfaflhpioaiaaGreatDoorE4
import Derived.Test.YtmpfaflhpioaiaaGreatDoorProg
import Derived.KernelRfl
namespace Go.Proofs
open Go Go.Eng
noncomputable def Tryz.tbF:TB:=tbP Tryz.prog
theorem Tryz.tb_ok:Wf Tryz.prog Tryz.tbF:=Qeq _
end Go.Proofs
