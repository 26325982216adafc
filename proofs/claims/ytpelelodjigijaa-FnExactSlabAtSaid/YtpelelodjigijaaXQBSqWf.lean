/- Plain facts: the numbers of a square that the laws are given are of their kind. -/
import Derived.Test.YtpelelodjigijaaXQOpn
import Derived.Test.YtpelelodjigijaaXQBSquare
namespace Go.Proofs.Ytpelelodjigijaa.Q
open Go.RowKit Go.Proofs.YtpelelodjigijaaW.PrintWords Go.Proofs.YtpelelodjigijaaW.PrintLast Go.Proofs.YtpelelodjigijaaW.PrintMore
theorem sq_small {x : S25} (h : wf25 x) (hl : x.f2.length ≤ 1048576) : smallQ (sqOf x) := by
 obtain ⟨h0, h1, -, h2⟩ := h
 refine ⟨wf8 h0, wf8 h1, by show (x.f2.map slabOf).length ≤ _; rw [List.length_map]; exact hl, fun s hs => ?_⟩
 obtain ⟨z, hz, rfl⟩ := List.mem_map.1 hs
 obtain ⟨g0, g1, g2, g3⟩ := h2 z hz
 exact ⟨wf8 g0, wf8 g1, wf8 g2, wf8 g3⟩
end Go.Proofs.Ytpelelodjigijaa.Q
