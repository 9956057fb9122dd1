import PyProof.Rows.All
import Wide.All
import OpenK.AllK
import Wide.FinOn
import PySem.Challenge.RW_patchkept_k43_pick_int
open PySem PySem.W PyProof.Rows
set_option Elab.async false
set_option maxRecDepth 100000 in
set_option maxHeartbeats 8000000 in
theorem PySem.Challenge.cw_patchkept_k43_pick_int_holds : PySem.Challenge.rw_patchkept_k43_pick_int.Holds := by
  open_k
