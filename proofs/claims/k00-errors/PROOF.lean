import PyProof.Rows.All
import Wide.All
import OpenK.AllK
import Wide.FinOn
import PySem.Challenge.RW_wishedasks_k00_errors_and_what_they_keep
open PySem PySem.W PySem.W.X PyProof.Rows
set_option Elab.async false
set_option maxRecDepth 100000 in
set_option maxHeartbeats 0 in
theorem PySem.Challenge.cw_wishedasks_k00_errors_and_what_they_keep_holds : PySem.Challenge.rw_wishedasks_k00_errors_and_what_they_keep.Holds := by
  open_z
