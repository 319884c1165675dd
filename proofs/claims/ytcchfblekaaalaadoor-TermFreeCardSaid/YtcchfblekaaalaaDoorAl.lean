/- Short names of words that stand often in the texts that squeeze.py wrote. -/
import Derived.Test.YtcchfblekaaalaaDoorPx0
namespace Go.Proofs.YtcchfblekaaalaaDoor.P
open Go.RowKit Go.Proofs.YtcchfblekaaalaaDoorW.PrintWords Go.Proofs.YtcchfblekaaalaaDoorW.PrintLast Go.Proofs.YtcchfblekaaalaaDoorW.PrintMore
theorem am_ {p : Prop} (h : p) : Aside0 p := ⟨h⟩
theorem aq1 : type_of% @blk_drewN := @blk_drewN
theorem aq2 : type_of% @blk_drew := @blk_drew
theorem aq3 : type_of% @blk_alloc := @blk_alloc
theorem av1 : type_of% @Kd.V_alloc := @Kd.V_alloc
theorem av2 : type_of% @Kd.V_drewN := @Kd.V_drewN
theorem av3 : type_of% @Kd.V_drew := @Kd.V_drew
theorem an1 : type_of% @Kd.N_alloc := @Kd.N_alloc
theorem an2 : type_of% @Kd.N_drewN := @Kd.N_drewN
theorem an3 : type_of% @Kd.N_drew := @Kd.N_drew
theorem ar1 : type_of% @Kd.R_alloc := @Kd.R_alloc
theorem ar2 : type_of% @Kd.R_drewN := @Kd.R_drewN
theorem ar3 : type_of% @Kd.R_drew := @Kd.R_drew
theorem ab1 : type_of% @below_alloc := @below_alloc
theorem ab2 : type_of% @pw_below_drewN := @pw_below_drewN
theorem ab3 : type_of% @below_drew1 := @below_drew1
theorem ab4 : type_of% @below_set := @below_set
theorem ab5 : type_of% @below_step := @below_step
theorem aq4 : type_of% @blk_below := @blk_below
theorem aq5 : type_of% @blk_put := @blk_put
theorem aq6 : type_of% @blk_far := @blk_far
theorem an4 : type_of% @Kd.N_elder' := @Kd.N_elder'
theorem av4 : type_of% @Kd.V_elder' := @Kd.V_elder'
theorem an5 : type_of% @Kd.N_mono := @Kd.N_mono
theorem av5 : type_of% @Kd.V_mono := @Kd.V_mono
theorem an6 : type_of% @Kd.N_lower := @Kd.N_lower
theorem af1 : type_of% @Kd.freshB := @Kd.freshB
theorem av6 : type_of% @Kd.V_far := @Kd.V_far
theorem an7 : type_of% @Kd.N_far := @Kd.N_far
theorem ac1 : type_of% @Kd.C_below := @Kd.C_below
theorem ac2 : type_of% @Kd.C_alloc := @Kd.C_alloc
theorem ac3 : type_of% @Kd.C_drewN := @Kd.C_drewN
theorem ac4 : type_of% @Kd.C_drew := @Kd.C_drew
theorem aq7 : type_of% @blk_cell := @blk_cell
theorem aq8 : type_of% @blk_frozen := @blk_frozen
theorem af2 : type_of% @Kd.fresh' := @Kd.fresh'
theorem an8 : type_of% @Kd.N_lt := @Kd.N_lt
theorem an9 : type_of% @Kd.N_reads' := @Kd.N_reads'
theorem an0 : type_of% @Kd.N_slice := @Kd.N_slice
