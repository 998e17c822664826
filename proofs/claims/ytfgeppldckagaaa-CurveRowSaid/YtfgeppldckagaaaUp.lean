/- A block's fact at a later world, where only blocks were made and orders drawn between the two. -/
import Derived.Test.YtfgeppldckagaaaWWords
namespace Go.Proofs.YtfgeppldckagaaaW.PrintWords
class Up (w W : World) : Prop where
  blk : ∀ {g : Nat} {o : Obj}, w.heap[g]? = some o → W.heap[g]? = some o
instance (w : World) : Up w w := ⟨fun h => h⟩
instance (w W : World) (n : Nat) [h : Up w W] : Up w (W.drewN n) := ⟨fun hb => blk_drewN (h.blk hb) n⟩
instance (w W : World) [h : Up w W] : Up w W.drew := ⟨fun hb => blk_drew (h.blk hb)⟩
instance (w W : World) (o : Obj) [h : Up w W] : Up w (W.alloc o) := ⟨fun hb => blk_alloc (h.blk hb) o⟩
abbrev bN := @blk_drewN
abbrev bD := @blk_drew
abbrev bA := @blk_alloc
abbrev bF := @blk_far
abbrev cS := @below_set
abbrev cA := @below_alloc
abbrev cN := @pw_below_drewN
abbrev cD := @below_drew1
end Go.Proofs.YtfgeppldckagaaaW.PrintWords
