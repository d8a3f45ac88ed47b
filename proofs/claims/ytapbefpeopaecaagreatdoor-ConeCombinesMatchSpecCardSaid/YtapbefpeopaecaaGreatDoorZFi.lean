/- What these functions compute, as plain functions. No program stands in it. -/
import Derived.Test.YtapbefpeopaecaaGreatDoorZGE
import Derived.Test.YtapbefpeopaecaaGreatDoorZFSg
import Derived.Test.YtapbefpeopaecaaGreatDoorZFn
set_option linter.unusedVariables false
set_option linter.unusedSimpArgs false
namespace Go.Num
open Go Go.Kn
def aI_ (a : Rt) : W :=
  bif (a7_ a) then ((Z.signW a.n.dec)) else ((wl 0))
def c9_ (a : Rt) : Rt :=
  bif decide ((aI_ a).1 < 0) then ((co_ a)) else ((co_ (co_ a)))
def ab_ (a : Rt) (b : Rt) : Rt :=
  bif (a7_ b) then (let r5 : Rt := (aG_ a (ap_ b.d b.n))
  r5) else (eA_)
def aL_ (a : Rt) : W :=
  bif (ae_ a) then ((Z.signW a.n.dec)) else ((wl 0))
def bz_ (a : Rt) : Rt :=
  bif (ae_ a) then ((⟨(E (Z.abs a.n.dec)), a.d⟩ : Rt)) else (bK_)
def bL_ (a : Rt) (b : Rt) : Rt :=
  bif (ae_ b) then (let r5 : Rt := (ah_ a (ai_ b.d b.n))
  r5) else (bK_)
end Go.Num

