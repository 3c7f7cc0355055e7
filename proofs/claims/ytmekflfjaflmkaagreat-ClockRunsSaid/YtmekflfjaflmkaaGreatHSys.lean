/- The trees of this seat's functions, part 0. Written by txgen.py. -/
import Derived.Test.YtmekflfjaflmkaaGreatHTxd
import Derived.Shelf.RegionOpenPlain
import Derived.WalkKit
import Derived.Deep.LoopGhost
import Derived.Deep.RegionLaw
import Derived.Lib.Walk
import Derived.Sort.WalkB12
import Derived.Lib.SliceRun
set_option linter.unusedSimpArgs false
set_option linter.unusedVariables false
set_option linter.unusedSectionVars false
set_option linter.defProp false
open Go.Sx.PT renaming need → nD, jump → jU, load → lO, call → cA
open Option.some renaming injEq → Q0
open Prod.mk renaming injEq → Q1
open Nat renaming zero_add → Q2, le_refl → Q4
open List renaming replicate → Q3, getElem?_append_left → Q6, set_append_left → Q7, cons_append → Q8, nil_append → Q9, append_nil → Qa, take → Qb, drop → Qd, length → Qe, length_set → Qf, length_append → Qg, length_cons → Qh, length_nil → Qj, replicate_succ → Qk, flatten_cons → Qm, getElem?_set_self → Qn, append_assoc → Qp
open Bool renaming and_eq_true → Q5
open Go.Sx renaming Sys → Qq
open Go.Proofs.Tryz renaming prog → Qr, underlying39 → QA
open Go.Sx.PT renaming wp → Qs
open _root_ renaming if_pos → Qt
open Go.Sx.PV renaming rowsOf → Qu, lows → Qw, nilOk → Qz
open Go.Sx.CtD renaming one → Qv
open Go.Sx.BE renaming safe → Qy
open Go.Sx.PEnv renaming push → QB
open Bool renaming false → ff, true → tt
open Option renaming some → sm, none → nO
set_option maxRecDepth 100000
namespace Go.Proofs.YtmekflfjaflmkaaGreat
open Go.Sx
open Tryz
abbrev a1j:SV:=(.va 0)
abbrev a0J:List SV:=[a1j]
abbrev a2W:List Kd:=[jD,jD,jD,jD,jD,jD]
abbrev a2n:List Sh:=[(.agg a2W)]
abbrev a0v:IE:=(.a 10)
abbrev a0p:IE:=(.a 4)
abbrev a0z:IE:=(.a 11)
abbrev a0t:IE:=(.a 5)
abbrev a0D:IE:=(.a 12)
abbrev a0u:IE:=(.a 6)
abbrev a0y:IE:=(.a 13)
abbrev a0l:IE:=(.a 7)
abbrev a0B:IE:=(.a 14)
abbrev a0o:IE:=(.a 8)
abbrev a0C:IE:=(.a 15)
abbrev a0r:IE:=(.a 9)
abbrev b2N:BE:=(.is 0 5)
abbrev a7e:Sh:=(.one jD)
abbrev a0W:List Sh:=[a7e]
abbrev a0N:IE:=(.a 16)
abbrev a7t:IE:=(.slen 5)
abbrev b5T:Sh:=(.one .bool)
abbrev a1A:List Sh:=[b5T]
abbrev a5W:BE:=(.a 1)
abbrev a3E:BE:=(.a 0)
abbrev d1n:BE:=(.not a5W)
abbrev a4h:BE:=(.not a3E)
abbrev a3x:List Sh:=[(.one .val)]
abbrev a7o:SV:=(.va 9)
abbrev a1S:SV:=(.va 5)
abbrev c3N:IE:=(.l (-1))
abbrev a0d:IE:=(.a 0)
abbrev a0k:IE:=(.a 1)
abbrev a0f:IE:=(.a 2)
abbrev a0g:IE:=(.a 3)
abbrev a6Z:List BE:=[a3E]
abbrev a0Q:SV:=(.va 1)
abbrev a1f:SV:=(.va 2)
abbrev a1d:SV:=(.va 3)
abbrev a1i:SV:=(.va 4)
abbrev a1G:SV:=(.va 6)
abbrev a2J:SV:=(.va 7)
abbrev a3U:SV:=(.va 8)
abbrev a7D:List SV:=[a1j,a0Q,a1f,a1d,a1i,a1S,a1G,a2J,a3U]
abbrev a1L:SV:=(jA 0)
abbrev c1x:List SV:=[a1j,a1L]
abbrev a1P:SV:=(jA 1)
abbrev a1N:SV:=(jA 2)
abbrev a1E:SV:=(jA 3)
abbrev a2Y:SV:=(jA 4)
abbrev a2u:SV:=(jA 5)
abbrev a2h:SV:=(jA 6)
abbrev a2k:SV:=(jA 7)
abbrev a2s:SV:=(jA 8)
abbrev a2f:SV:=(jA 9)
abbrev a2r:SV:=(jA 10)
abbrev b3K:SV:=(.bool a3E)
abbrev e4e:List SV:=[a0Q,a1f,a1d,a1i,a1P,a1N,a1E,a2Y,a1S,a2u,a2h,a2k,a2s,a2f,a2r,a1G,a2J,a3U,b3K]
abbrev a0q:IE:=(.l 0)
abbrev a7s:SV:=(.va 10)
abbrev b1e:SV:=(.bool (.t tt))
abbrev a4C:PT:=(.ret ff b1e [])
abbrev a3Z:BE:=(.is 0 1)
abbrev a0P:IE:=(.slen 1)
abbrev c7d:BE:=(treeI a0k a0P)
abbrev a2Q:IE:=(.slen 2)
abbrev c7m:BE:=(treeI a0k a2Q)
abbrev c3X:List Kd:=[jD,jD,jD,jD,jD,jD,jD,jD,jD,jD,jD,jD]
abbrev a2A:IE:=(.a 24)
abbrev a4D:IE:=(.a 25)
abbrev a8h:IE:=(.a 26)
abbrev a4c:IE:=(.a 27)
abbrev b9f:IE:=(.a 28)
abbrev a0T:IE:=(.a 17)
abbrev a0X:IE:=(.a 18)
abbrev a1m:IE:=(.a 19)
abbrev a1b:IE:=(.a 20)
abbrev a1B:IE:=(.a 21)
abbrev a1F:IE:=(.a 22)
abbrev a1X:IE:=(.a 23)
abbrev a1M:IE:=(jP 1)
abbrev a1u:BE:=(treeB a1M)
abbrev f0x:List IE:=[a0d,a1M,a0f,a0g,a0p,a0t,a0u,a0l,a0o,a0r,a0v,a0z]
abbrev a1R:IE:=(jP 0)
abbrev a2c:BE:=(treeB a1R)
abbrev a1p:BE:=(.is 0 0)
abbrev a8b:BE:=(.lt a0k a0d)
abbrev a2H:IE:=(.slen 0)
abbrev a3T:BE:=(treeI a0k a2H)
abbrev d9m:SV:=(.ea 0 a0k 5 0)
abbrev d0U:List Kd:=[.val,jD,jD,jD,jD]
abbrev a3w:IE:=(.l 5)
abbrev d1F:BE:=(.eq a0k a3w)
abbrev a4P:IE:=(.l 6)
abbrev a2C:IE:=(.l 4)
abbrev d0i:BE:=(.eq a0k a2C)
abbrev a2I:IE:=(.l 3)
abbrev d0c:BE:=(.eq a0k a2I)
abbrev a2Z:IE:=(.l 2)
abbrev d1O:BE:=(.eq a0k a2Z)
abbrev a1n:IE:=(.l 1)
abbrev c5z:BE:=(.eq a0k a1n)
abbrev b4j:BE:=(.eq a0k a0q)
abbrev b0a:List SV:=[a1N,a1E,a2Y,a2u,a2h,a2k]
abbrev c2G:SV:=(.agg b0a)
abbrev e0l:PT:=(.ret ff c2G [])
abbrev b4c:BE:=(.is 4 0)
abbrev a9Y:BE:=(.nil 0)
abbrev c5L:PT:=(.ret tt (jE 6) [])
abbrev b6x:BE:=(.lt a0d a0q)
abbrev e1G:PT:=(.ret tt (jE 4) [])
abbrev a1k:BE:=(.is 1 0)
abbrev a5K:SV:=(.pa 0 8)
abbrev a0R:List Kd:=[.val]
abbrev a7E:BE:=(.is 0 2)
abbrev c0h:SV:=(.pa 0 18)
abbrev b0j:List Kd:=[.bool]
abbrev b1d:BE:=(.is 0 3)
abbrev a3W:IE:=(.slen 3)
abbrev a3b:IE:=(.slen 4)
abbrev b3U:SV:=(.pa 0 9)
abbrev b2w:List SV:=[a1P,a1N,a1E,a2Y,a2u,a2h]
abbrev a3H:SV:=(.bool (.t ff))
abbrev a1h:List SV:=[a3H]
abbrev a0O:SV:=(jE 0)
abbrev d1L:PT:=(.ret tt a0O [])
abbrev e7g:PT:=(nD a1k (.storeM c0h a1h d1L))
abbrev e5R:PT:=(cA 31 a0J [] [] (nD a1k (lO ff a5K a0R (nD b1d (.ite (.lt a0d a3W) (nD a1k (lO ff a5K a0R (nD (treeI a0d a3b) (lO ff (.ea 4 a0d 9 0) a2W (nD a1k (.storeM b3U b2w (nD a1k (lO ff a5K a0R (.cut 5 nO (sm (.a 0)) 9 (cA 62 [a1G] [] a3x (nD a1k (.storeM a5K [a2J] e7g)))))))))))) e7g)))))
abbrev d1q:BE:=(.le a0q a0d)
abbrev b1b:SV:=(.va 11)
abbrev d5B:PT:=(.ret ff a1j [])
abbrev d0p:BE:=(.eq a2H a0q)
abbrev d6w:PT:=(.ret ff (jE 1) [])
abbrev b4o:PT:=(.ret ff (jE 3) [])
abbrev e0Z:PT:=(jU 0 [a0q] [] a0J)
abbrev b6b:BE:=(.lt a0d a2H)
abbrev a1U:BE:=(treeI a0d a2H)
abbrev d6h:PT:=(.ret ff (jE 5) [])
abbrev c0g:PT:=(.ret ff (jE 7) [])
abbrev b6o:List IE:=[a0d,a1M]
abbrev a1e:PT:=(.ret ff (jE 4) [])
abbrev c0o:BE:=(.lt a2C a0f)
abbrev b6p:BE:=(.lt a0g a0q)
abbrev a8T:IE:=(.l 1000000)
abbrev d6m:BE:=(.lt a8T a0g)
abbrev b6f:BE:=(.lt a0p a0q)
abbrev d1s:BE:=(.lt a0t a0q)
abbrev d1f:PT:=(nD a2c (jU 0 [a1R] [] a0J))
abbrev b6e:BE:=(.lt a0k a2H)
abbrev a0K:List Kd:=[jD]
abbrev a8l:BE:=(treeB (jP 2))
abbrev a3z:PT:=(.ret ff a0O [])
abbrev a1w:List SV:=[a0O,a0O,a0O,a0O,a0O,a0O]
abbrev d6x:PT:=(.ret tt a0Q [])
abbrev b2P:SV:=(.pa 0 17)
abbrev c2f:SV:=(.ea 0 a0k 6 0)
abbrev a5J:List SV:=[a1j,a0Q]
abbrev d5Z:PT:=(nD a1u (jU 0 b6o [] a5J))
abbrev d1m:PT:=(.ret ff .nilS [])
abbrev d6G:PT:=(.ret ff a1f [])
abbrev b0f:BE:=(.is 0 7)
abbrev a6K:IE:=(.slen 7)
abbrev e8i:SV:=(.agg [a1j,a0Q,a1f,a1d,a1L,a1P,a1N,a1E,a1i,a2Y,a2u,a2h,a2k,a2s,a2f,a3U,a7o,a2J,b3K])
abbrev e1r:PT:=(cA 121 [a1G] [] [(.agg [.val,.val]),b5T] (.ret ff b3K []))
abbrev a6f:BE:=(.is 0 4)
abbrev e6X:PT:=(jU 0 [a0q,a0d,a0k,a0f,a0g,a0p,a0t,a0u,a0l,a0o,a0r,a0v,a0z,a0D,a0y,a0B,a0C,a0N,a0T,a0X,a1m,a1b,a1B,a1F,a1X] [] [])
abbrev d6F:BE:=(.lt a0d a4P)
abbrev d1E:BE:=(.eq a0d a3w)
abbrev e2t:PT:=(jU 0 [a4P,a0k,a0f,a0g,a0p,a0t,a0u,a0l,a0o,a0r,a0v,a0z,a0D,a0y,a0B,a0C,a0N,a0T,a0X,a1m,a1b,a1B,a1F,a1X,a2A] [] [])
abbrev d0n:BE:=(.eq a0d a2C)
abbrev e2D:PT:=(jU 0 [a3w,a0k,a0f,a0g,a0p,a0t,a0u,a0l,a0o,a0r,a0v,a0z,a0D,a0y,a0B,a0C,a0N,a0T,a0X,a1m,a1b,a1B,a1F,a1X,a2A] [] [])
abbrev b6n:BE:=(.eq a0d a2I)
abbrev e0U:PT:=(jU 0 [a2C,a0k,a0f,a0g,a0p,a0t,a0u,a0l,a0o,a0r,a0v,a0z,a0D,a0y,a0B,a0C,a0N,a0T,a0X,a1m,a1b,a1B,a1F,a1X,a2A] [] [])
abbrev b4g:BE:=(.eq a0d a2Z)
abbrev e2c:PT:=(jU 0 [a2I,a0k,a0f,a0g,a0p,a0t,a0u,a0l,a0o,a0r,a0v,a0z,a0D,a0y,a0B,a0C,a0N,a0T,a0X,a1m,a1b,a1B,a1F,a1X,a2A] [] [])
abbrev b3X:BE:=(.eq a0d a1n)
abbrev e1f:PT:=(jU 0 [a2Z,a0k,a0f,a0g,a0p,a0t,a0u,a0l,a0o,a0r,a0v,a0z,a0D,a0y,a0B,a0C,a0N,a0T,a0X,a1m,a1b,a1B,a1F,a1X,a2A] [] [])
abbrev b4k:BE:=(.eq a0d a0q)
abbrev e1Z:PT:=(jU 0 [a1n,a0k,a0f,a0g,a0p,a0t,a0u,a0l,a0o,a0r,a0v,a0z,a0D,a0y,a0B,a0C,a0N,a0T,a0X,a1m,a1b,a1B,a1F,a1X,a2A] [] [])
abbrev a0E:List SV:=[a1j,a0Q,a1f,a1d]
abbrev a3h:SV:=(.agg a0E)
abbrev a2R:BE:=(treeI a0d a0P)
abbrev e2h:SV:=(.ea 0 a0k 12 6)
abbrev d1u:List SV:=[a1j,a0Q,a1f,a1d,a1i]
abbrev d6o:PT:=(.ret ff a1L [])
abbrev b3V:List Kd:=[jD,jD,jD]
abbrev c2H:BE:=(.eq a0B a3w)
abbrev c2b:IE:=(.sub a0l a0N)
abbrev c2N:BE:=(.eq a0B a2C)
abbrev c2e:BE:=(.eq a0B a2I)
abbrev c2c:BE:=(.eq a0B a2Z)
abbrev c2S:BE:=(.eq a0B a1n)
abbrev b4a:BE:=(.eq a0B a0q)
abbrev c3g:IE:=(.sub a0u a0N)
abbrev c1Z:IE:=(.sub a0t a0N)
abbrev c2y:IE:=(.sub a0p a0N)
abbrev c1R:IE:=(.sub a0g a0N)
abbrev c3d:IE:=(.sub a0f a0N)
abbrev a2L:SV:=(jA 11)
abbrev a4J:SV:=(jA 12)
abbrev a5t:SV:=(jA 13)
abbrev b9U:List SV:=[a2s,a2f,a2r,a2L,a4J,a5t]
abbrev b2s:SV:=(.agg b9U)
abbrev c2L:BE:=(.eq a0u a0q)
abbrev e1K:List SV:=[a1L,a1P,a1N,a1E,a2Y,a2u]
abbrev b2Y:SV:=(.agg e1K)
abbrev d6s:BE:=(.eq a0l a0q)
abbrev c0i:BE:=(.not d6s)
abbrev b6k:BE:=(.lt a0f a0k)
abbrev c2l:BE:=(treeI a0f a0P)
abbrev c5R:List SV:=[(.agg [a1f,a2f,a2r,a2L,a4J])]
abbrev d1H:BE:=(.eq a0f a0q)
abbrev c5C:BE:=(.lt a0k a0q)
abbrev c0j:BE:=(.lt a0f a0q)
abbrev c0x:SV:=(.agg [a2h,a2k,a2s,a2f,a2r,a2L])
abbrev d1U:BE:=(.eq a0D a0q)
abbrev b6g:SV:=(.bool a5W)
abbrev e6z:PT:=(cA 8 [] [] a1A (.ret ff b6g []))
abbrev e5L:List SV:=[a3h,(.agg [a1L,a1P,a1N,a1E])]
abbrev d0t:List Sh:=[(.one .val),a7e]
abbrev c1Y:Sh:=(.agg [.val,.val,.val,.val,jD,jD,jD,jD,.val,jD,jD,jD,jD,jD,jD,.val,.val,.val,.bool])
abbrev c5y:List Sh:=[c1Y,a7e]
abbrev c0c:BE:=(.eq a0p a0q)
abbrev b0X:SV:=(.va 12)
abbrev b1a:SV:=(.va 13)
abbrev a5S:SV:=(jA 14)
abbrev e1x:List SV:=[a1G,a2J,a3U,a7o,a2u,a2h,a2k,a2s,a7s,a2f,a2r,a2L,a4J,a5t,a5S,b1b,b0X,b1a,b3K]
abbrev c0z:SV:=(jA 25)
abbrev b9S:SV:=(jA 26)
abbrev b3Z:SV:=(.va 14)
abbrev c0v:SV:=(.va 15)
abbrev e6d:PT:=(cA 13 [(.agg e1x),(.agg [c0z,b9S,(jA 27),(jA 28),(jA 29),(jA 30),(jA 31),(jA 32),(jA 33)])] [] [c1Y,b5T,a7e] (jU 1 [a0d,a2A,(.a 44),a0k,a0f,a0g,a0p,a0t,a0u,a0l,a0o,a0r,a0v,a0z,a0D,a0y,a0B,(.a 34),(.a 35),(.a 36),(.a 37),(.a 38),(.a 39),(.a 40),(.a 41),(.a 42),(.a 43)] [a5W,(.a 3),(.not (.nil 1)),a3E,(.a 2)] [a1j,a0Q,a1f,a1d,a1i,a1S,a1G,a2J,a3U,a7o,a7s,b1b,b0X,b1a,b3Z,c0v,(.va 16),(.va 17),(.va 18),(.va 19),(.va 20),(.va 21)]))
abbrev d5U:SV:=(.ea 0 a0d 9 0)
abbrev e1L:List Kd:=[jD,jD,jD,jD,jD,jD,jD,jD,jD]
abbrev a6i:SV:=(jA 15)
abbrev a7K:SV:=(jA 16)
abbrev a8U:SV:=(jA 17)
abbrev a4H:SV:=(jA 18)
abbrev a4K:SV:=(jA 19)
abbrev a5Q:SV:=(jA 20)
abbrev a6E:SV:=(jA 21)
abbrev a8Q:SV:=(jA 22)
abbrev b3Y:SV:=(jA 23)
abbrev e5K:PT:=(nD (.is 4 1) (.ite (.nil 1) e6z (cA 11 [a0Q,(.agg e1x)] [] a1A (.ite a5W (cA 8 [] [] a1A (.ret ff (.bool (.a 2)) [])) rF))))
abbrev d5V:BE:=(.not (.a 4))
abbrev e1z:List SV:=[a1E,a2Y,a2u,a2h,a2k,a2s]
abbrev b6m:SV:=(.agg e1z)
abbrev d5G:PT:=(.ret tt (.tup [a3H,a2f]) [])
abbrev c5Q:BE:=(.not b4k)
abbrev e2l:PT:=(.ret ff a1P [])
abbrev d6B:PT:=(.ret tt (jE 10) [])
abbrev d6A:BE:=(.lt (.l 8) a2H)
abbrev c3n:BE:=(.lt a2C a0g)
abbrev b9Z:List SV:=[a4J,a5t,a5S,a6i,a7K,a8U]
abbrev b1c:BE:=(.is 3 0)
abbrev c2x:IE:=(.stl 0)
abbrev d0j:BE:=(treeI a0d c2x)
abbrev d0T:IE:=(.sat 0 a0d)
abbrev e8x:PT:=(.ite b4k rF (nD b1c (nD d0j (.ite (.not (.eq d0T (.l 95))) (nD b1c (nD d0j (.ite (.lt d0T (.l 48)) rF (nD b1c (nD d0j (.ite (.lt (.l 57) d0T) rF d1f)))))) d1f))))
abbrev e8l:SV:=(.agg [a1j,a0Q,a1f,a1d,a1L,a1i])
abbrev e0F:List SV:=[e8l,(.agg [a1P,a1N,a1E,a2Y,a2u,a2h,a2k,a2s,a2f,a2r,a2L,a4J])]
abbrev e8n:IE:=(.sub a0X (.mn (.sub a0X a2A) (.mx (.sub a0D a0u) a0q)))
abbrev e6r:IE:=(.sub a0T (.mn (.sub a0T a1X) (.mx (.sub a0z a0t) a0q)))
abbrev e7U:IE:=(.sub a0N (.mn (.sub a0N a1F) (.mx (.sub a0v a0p) a0q)))
abbrev e7n:IE:=(.sub a0C (.mn (.sub a0C a1B) (.mx (.sub a0r a0g) a0q)))
abbrev e7O:IE:=(.sub a0B (.mn (.sub a0B a1b) (.mx (.sub a0o a0f) a0q)))
abbrev e6c:IE:=(.sub a0y (.mn (.sub a0y a1m) (.mx (.sub a0l a0k) a0q)))
abbrev c0a:SV:=(jA 24)
abbrev e2u:List SV:=[a4K,a5Q,a6E,a8Q,b3Y,c0a]
abbrev e1j:IE:=(.mul (.mul (.mul a1n a1R) a1M) (jP 2))
abbrev b9Y:BE:=(treeB (jP 3))
abbrev d6n:IE:=(.mul (.mul e1j (jP 3)) (jP 4))
abbrev a7N:IE:=(jP 5)
abbrev b0c:BE:=(treeB a7N)
abbrev e2E:PT:=(jU 0 [a0q] [] a5J)
abbrev a4L:List SV:=[a1j,a0Q,a1f]
abbrev c5T:SV:=(.agg [a2f,a2r,a2L,a4J,a5t,a5S])
abbrev d0W:SV:=(.agg [a6i,a7K,a8U,a4H,a4K,a5Q])
abbrev d1J:SV:=(.agg [a6E,a8Q,b3Y,c0a,c0z,b9S])
abbrev e5Z:IE:=(.sub (.add a4c b9f) (.a 29))
abbrev e7J:IE:=(.sub (.add b9f a4c) (.a 29))
abbrev e6k:IE:=(.sub (.add (.a 29) a4c) b9f)
abbrev d5A:SV:=(.ea 0 a0k 12 0)
abbrev e6h:PT:=(nD (treeB (jP 4)) (jU 4 [a0d,a0k,a0f,a0g,(jP 4)] a6Z a4L))
abbrev c5K:List IE:=[a0d,a0k,(jP 2)]
abbrev e6w:PT:=(.ite (.le (.l 97) a0d) (.ret ff (.bool (.le a0d (.l 122))) []) rF)
abbrev c5O:BE:=(.eq a0v a0q)
abbrev b0g:SV:=(.agg [a1j,a0Q,a1f,a1d,a1L,a1P,a1N,a1E,a1i,a2Y,a2u,a2h,a2k,a2s,a2f,a1S,a1G,a2J,b3K])
abbrev c3s:List SV:=[a5t,a5S,a6i,a7K,a8U,a4H]
abbrev e7j:SV:=(.agg [a3U,a7o,a7s,b1b,a4K,a5Q,a6E,a8Q,b0X,b3Y,c0a,c0z,b9S,(jA 27),(jA 28),b1a,b3Z,c0v,b6g])
abbrev d0F:PT:=(.ret ff (.tup [e7j,a3H,(jA 29)]) [])
abbrev e0D:BE:=(.eq (.a 29) a0q)
abbrev d5Y:PT:=(.ret ff a2k [])
abbrev a6h:PT:=(.ret ff (jE 6) [])
abbrev b2L:SV:=(.agg b2w)
abbrev d0a:BE:=(.lt a0k a4P)
abbrev a7G:PT:=(.ret ff (jE 14) [])
abbrev b0Y:SV:=(.ea 1 a0d 4 1)
abbrev e2o:List IE:=[a0d,a4P,a0f,a0g,a0p,a0t,a0u,a0l,a0o,a0r,a0v,a0z,a0D,a0y,a0B,a0C,a0N,a0T,a0X,a1m,a1b,a1B,a1F,a1X,a2A,a4D]
abbrev e2y:PT:=(jU 0 e2o [] a0E)
abbrev e1O:BE:=(.not (.eq a0X a0q))
abbrev e0z:List IE:=[a0d,a3w,a0f,a0g,a0p,a0t,a0u,a0l,a0o,a0r,a0v,a0z,a0D,a0y,a0B,a0C,a0N,a0T,a0X,a1m,a1b,a1B,a1F,a1X,a2A,a4D]
abbrev e1E:PT:=(jU 0 e0z [] a0E)
abbrev d1Q:BE:=(.eq a0T a0q)
abbrev e0k:List IE:=[a0d,a2C,a0f,a0g,a0p,a0t,a0u,a0l,a0o,a0r,a0v,a0z,a0D,a0y,a0B,a0C,a0N,a0T,a0X,a1m,a1b,a1B,a1F,a1X,a2A,a4D]
abbrev e2s:PT:=(jU 0 e0k [] a0E)
abbrev d6u:BE:=(.not (.eq a0N a0q))
abbrev e1o:List IE:=[a0d,a2I,a0f,a0g,a0p,a0t,a0u,a0l,a0o,a0r,a0v,a0z,a0D,a0y,a0B,a0C,a0N,a0T,a0X,a1m,a1b,a1B,a1F,a1X,a2A,a4D]
abbrev e1c:PT:=(jU 0 e1o [] a0E)
abbrev e1N:List IE:=[a0d,a2Z,a0f,a0g,a0p,a0t,a0u,a0l,a0o,a0r,a0v,a0z,a0D,a0y,a0B,a0C,a0N,a0T,a0X,a1m,a1b,a1B,a1F,a1X,a2A,a4D]
abbrev e2k:PT:=(jU 0 e1N [] a0E)
abbrev c2h:BE:=(.not b4a)
abbrev e0f:List IE:=[a0d,a1n,a0f,a0g,a0p,a0t,a0u,a0l,a0o,a0r,a0v,a0z,a0D,a0y,a0B,a0C,a0N,a0T,a0X,a1m,a1b,a1B,a1F,a1X,a2A,a4D]
abbrev e0j:PT:=(jU 0 e0f [] a0E)
abbrev e0w:List IE:=[a0d,a0q,a0f,a0g,a0p,a0t,a0u,a0l]
abbrev d1x:List IE:=[a0d,a1M,a0f,a0g,a0p,a0t,a0u,a0l]
abbrev e6P:PT:=(.ite (.lt a0v a0y) a7G (nD a1u (jU 1 d1x [] a0E)))
abbrev d5J:BE:=(.lt a0d a1n)
abbrev d6D:BE:=(.lt a0g a1n)
abbrev e7F:PT:=(.ite d5J a1e (.ite (.lt a8T a0d) a1e (.ite c5C a1e (.ite (.lt (.l 100) a0k) a1e (.ite (.lt a0f a1n) a1e (.ite (.lt a2I a0f) a1e (.ite d6D a1e (.ite (.lt a2I a0g) a1e a3z))))))))
abbrev a7F:SV:=(.pa 0 15)
abbrev c3c:SV:=(.pa 0 16)
abbrev e1F:List Kd:=[jD,jD,jD,jD,jD,jD,.val,.val,.val]
abbrev e0o:PT:=(nD a3Z (.ret ff (.bool (.lt a0d a0P)) []))
abbrev d0g:List SV:=[(.agg [a1L,a1P,a1N,a1E])]
abbrev d0A:SV:=(.agg a1w)
abbrev c0k:List SV:=[a2L,a4J,a5t,a5S,a6i,a7K]
abbrev c2I:List SV:=[(.agg c0k)]
abbrev e7u:PT:=(jU 0 [a0d,a0k,a0f,a0g,a0p,a0t,a4P,a0l,a0o,a0r,a0v,a0z,a0D,a0y,a0B,a0C,a0N,a0T,a0X,a1m,a1b,a1B,a1F] [] a0J)
abbrev e6p:PT:=(jU 0 [a0d,a0k,a0f,a0g,a0p,a0t,a3w,a0l,a0o,a0r,a0v,a0z,a0D,a0y,a0B,a0C,a0N,a0T,a0X,a1m,a1b,a1B,a1F] [] a0J)
abbrev e7s:PT:=(jU 0 [a0d,a0k,a0f,a0g,a0p,a0t,a2C,a0l,a0o,a0r,a0v,a0z,a0D,a0y,a0B,a0C,a0N,a0T,a0X,a1m,a1b,a1B,a1F] [] a0J)
abbrev e7Y:PT:=(jU 0 [a0d,a0k,a0f,a0g,a0p,a0t,a2I,a0l,a0o,a0r,a0v,a0z,a0D,a0y,a0B,a0C,a0N,a0T,a0X,a1m,a1b,a1B,a1F] [] a0J)
abbrev e7a:PT:=(jU 0 [a0d,a0k,a0f,a0g,a0p,a0t,a2Z,a0l,a0o,a0r,a0v,a0z,a0D,a0y,a0B,a0C,a0N,a0T,a0X,a1m,a1b,a1B,a1F] [] a0J)
abbrev e8b:PT:=(jU 0 [a0d,a0k,a0f,a0g,a0p,a0t,a1n,a0l,a0o,a0r,a0v,a0z,a0D,a0y,a0B,a0C,a0N,a0T,a0X,a1m,a1b,a1B,a1F] [] a0J)
abbrev d1o:PT:=(.ret ff (.tup [d0A,(jE 4)]) [])
abbrev e8q:SV:=(.agg [a8U,a4H,a4K,a5Q,a6E,a8Q])
abbrev e6C:PT:=(.ret ff (.tup [e8q,a0O]) [])
abbrev e7V:PT:=(nD a1p (.ite a9Y d1m (.app nO (.lit []) 3 (.app (sm 1) (.va 0) 3 d6G))))
abbrev e7E:PT:=(.ite b6x a1e (.ite (.lt a2C a0d) a1e (.ite c5C a1e (.ite (.lt a2C a0k) a1e (.ite c0j a1e (.ite c0o a1e (.ite b6p a1e (.ite c3n a1e (.ite b6f a1e (.ite (.lt a2C a0p) a1e (.ite d1s a1e (.ite (.lt a2C a0t) a1e a3z))))))))))))
abbrev e8h:PT:=(nD a1p (jU 0 [a2H,a0q] [] [a0Q,a1j]))
abbrev e5Q:PT:=(nD (.is 3 2) (nD b1c (.ite (.seq 2 0) (.ret ff (.tup [a1P,b1e]) []) d5Z)))
abbrev e2z:PT:=(.ret ff (.tup [a0O,a3H]) [])
abbrev d5z:SV:=(.ea 0 a0d 6 5)
abbrev e7X:PT:=(jU 0 [a0d,a4P,a0f,a0g,a0p,a0t,a0u,a0l,a0o,a0r,a0v,a0z,a0D,a0y,a0B,a0C,a0N,a0T,a0X,a1m] [] a0J)
abbrev d5X:SV:=(.ea 0 a0d 6 4)
abbrev e6l:PT:=(jU 0 [a0d,a3w,a0f,a0g,a0p,a0t,a0u,a0l,a0o,a0r,a0v,a0z,a0D,a0y,a0B,a0C,a0N,a0T,a0X,a1m] [] a0J)
abbrev d5H:SV:=(.ea 0 a0d 6 3)
abbrev e6f:PT:=(jU 0 [a0d,a2C,a0f,a0g,a0p,a0t,a0u,a0l,a0o,a0r,a0v,a0z,a0D,a0y,a0B,a0C,a0N,a0T,a0X,a1m] [] a0J)
abbrev d6H:SV:=(.ea 0 a0d 6 2)
abbrev e6I:PT:=(jU 0 [a0d,a2I,a0f,a0g,a0p,a0t,a0u,a0l,a0o,a0r,a0v,a0z,a0D,a0y,a0B,a0C,a0N,a0T,a0X,a1m] [] a0J)
abbrev d5M:SV:=(.ea 0 a0d 6 1)
abbrev e7m:PT:=(jU 0 [a0d,a2Z,a0f,a0g,a0p,a0t,a0u,a0l,a0o,a0r,a0v,a0z,a0D,a0y,a0B,a0C,a0N,a0T,a0X,a1m] [] a0J)
abbrev d1D:SV:=(.ea 0 a0d 6 0)
abbrev e7W:PT:=(jU 0 [a0d,a1n,a0f,a0g,a0p,a0t,a0u,a0l,a0o,a0r,a0v,a0z,a0D,a0y,a0B,a0C,a0N,a0T,a0X,a1m] [] a0J)
abbrev e7S:PT:=(jU 0 [a0d,a4P,a0f,a0g,a0p,a0t,a0u,a0l,a0o,a0r,a0v,a0z,a0D,a0q] [] a0E)
abbrev e6Y:PT:=(jU 0 [a0d,a3w,a0f,a0g,a0p,a0t,a0u,a0l,a0o,a0r,a0v,a0z,a0q,a0y] [] a0E)
abbrev e8B:PT:=(jU 0 [a0d,a2C,a0f,a0g,a0p,a0t,a0u,a0l,a0o,a0r,a0v,a0q,a0D,a0y] [] a0E)
abbrev e8z:PT:=(jU 0 [a0d,a2I,a0f,a0g,a0p,a0t,a0u,a0l,a0o,a0r,a0q,a0z,a0D,a0y] [] a0E)
abbrev e7Z:PT:=(jU 0 [a0d,a2Z,a0f,a0g,a0p,a0t,a0u,a0l,a0o,a0q,a0v,a0z,a0D,a0y] [] a0E)
abbrev e5N:PT:=(jU 0 [a0d,a1n,a0f,a0g,a0p,a0t,a0u,a0l,a0q,a0r,a0v,a0z,a0D,a0y] [] a0E)
abbrev e7r:PT:=(.scut 0 (sm (.a 0)) (sm (.a 1)) d6G)
abbrev c2t:IE:=(.sub a2H a1n)
abbrev e1A:PT:=(.ret ff d0A [])
abbrev d6z:PT:=(.ret ff b2Y [])
abbrev d1z:PT:=(.ret ff (.tup [b0g,(jE 10)]) [])
abbrev d6q:PT:=(.ret ff (.tup [b0g,(jE 6)]) [])
abbrev e0N:SV:=(.agg [a2Y,a2u,a2h,a2k,a2s,a2f,a2L,a4J,a5t,a5S,a6i,a7K])
abbrev d6p:BE:=(.eq a7t a0q)
abbrev b2t:BE:=(.is 0 6)
abbrev a9Z:IE:=(.slen 6)
abbrev e1v:BE:=(treeI a0v (.slen 9))
abbrev e7N:PT:=(nD e1v (.storeM (.ea 9 a0v 6 0) c0k (nD (treeI a0v (.slen 10)) (.storeM (.ea 10 a0v 1 0) [b1e] (.ret ff (.tup [(.agg [a1j,a0Q,a1f,a1d,a1L,a1P,a1N,a1E,a1i,a2Y,a2u,a2h,a2k,a2s,a2f,a7o,a7s,a2J,b3K]),a0O]) [])))))
abbrev e7K:PT:=(nD b2t (.ite (.eq a9Z a0q) (.app nO (.lit []) 1 e7N) (.appM .nilS (.va 6) 1 4 e7N)))
abbrev e7e:PT:=(nD b2N (.ite d6p (.app nO (.lit []) 6 e7K) (.appM .nilS (.va 5) 6 51 e7K)))
abbrev e8A:PT:=(.ret ff (.tup [b0g,a4H]) [])
abbrev e8v:PT:=(nD (treeI a0v (.slen 8)) (.storeM (.ea 8 a0v 6 0) c0k (nD e1v (.storeM (.ea 9 a0v 1 0) [b1e] (.ret ff (.tup [e8i,a0O]) [])))))
abbrev e6G:PT:=(nD b2t (.ite (.eq a9Z a0q) (.app nO (.lit []) 1 e8v) (.appM .nilS (.va 6) 1 4 e8v)))
abbrev e5W:PT:=(nD b2N (.ite d6p (.app nO (.lit []) 6 e6G) (.appM .nilS (.va 5) 6 51 e6G)))
abbrev e1g:PT:=(cA 51 [a0Q] [] a3x (cA 52 [a1f] [] a3x (.ret tt (.agg [a1L,a1P,a1N,a1E,a2Y,a2u,a1d,a1i,a1S]) [])))
abbrev d6d:PT:=(nD a2c (jU 0 [a1R] [] a5J))
abbrev c0n:BE:=(.lt a0q a2H)
abbrev e6o:PT:=(nD a1p (.ite c0n (nD a1p (nD (treeB c2t) (nD (treeI c2t a2H) (lO ff (.ea 0 c2t 12 6) a2W (.ret ff (.bool (.and b4k (.and b4j (.and d1H (.and (.eq a0g a0q) (.and c0c (.eq a0t a0q))))))) []))))) rF))
abbrev e6v:PT:=(nD a1p (jU 0 [a2H,a0q,a0q,a0q,a0q,a0q,a0q,a0q] [] a0J))
abbrev d0X:List SV:=[a5Q,a6E,a8Q,b3Y,c0a,c0z]
abbrev e2A:PT:=(nD a1p (jU 0 [a2H,a0q] [] a0J))
abbrev e2p:SV:=(.agg [a1N,a1E,a2Y,a2u,a2h,a2k,a2s,a2f,a2r,a2L,a4J,a5t])
abbrev e0H:PT:=(nD a1u (jU 0 b6o [] a0J))
abbrev a8k:List SV:=[a1i]
abbrev e0W:PT:=(.ret tt (.tup []) [])
abbrev c5v:PT:=(nD a1k (.storeM c3c a8k e0W))
abbrev e7I:PT:=(nD a1k (.storeM a7F a8k (nD a1k (.storeM c3c [a1d] e0W))))
abbrev e2v:PT:=(jU 1 [a0d,a0k,a0f,a0g,a0p,a0t,a0u,a0l,a0o,a0r,a0v,a0z,a0D,a0y,a0B,a0C] a6Z [a3U,a1j,a0Q,a1f,a1d,b0X,a1S,a1G,a2J])
abbrev e6J:List IE:=[a0q,a0d,a0k,a0f,a0g,a0p,a0t,a0u,a0l,a0o,a0r,a0v,a0z,a0D,a0y,a0B,a0C]
abbrev d5L:PT:=(jU 0 e6J a6Z [a7s,a1j,a0Q,a1f,a1d,a1i,a1S,a1G,a2J])
abbrev e1R:PT:=(jU 1 [a0k,a0f,a0g,a0p,a0t,a0u,a0l,a0o,a0r,a0v,a0z,a0D,a0y,a0B,a0C,a0N] a6Z [a7o,a0Q,a1f,a1d,a1i,b1a,a1G,a2J,a3U])
abbrev e7A:PT:=(nD a2c (jU 0 [a1R,a0k,a0f,a0g,a0p,a0t,a0u,a0l,a0o,a0r,a0v,a0z,a0D,a0y,a0B,a0C,a0N] a6Z a7D))
abbrev b6w:List BE:=[a3E,a5W]
abbrev d6v:List BE:=[(.t tt),a5W]
abbrev d6E:List Sh:=[(.agg a2W),a7e]
abbrev e8e:PT:=(.ret ff (.tup [(.agg [a7o,a7s,b1b,b0X,(jA 30),(jA 31),(jA 32),(jA 33),b1a,(jA 34),(jA 35),(jA 36),(jA 37),(jA 38),(jA 39),b3Z,c0v,(.va 16),(.bool (.a 2))]),a0O]) [])
abbrev e1w:PT:=(cA 75 [(.agg [a0Q,a1f,a1d,a1i,a1N,a1E,a2Y,a2u,a1S,a2h,a2k,a2s,a2f,a2r,a2L,a1G,a2J,a3U,b1e])] [] [c1Y] e8e)
abbrev e8c:PT:=(nD b2N (.ite (.le (.l 30) a7t) e1w (.ite (.not e0D) e1w (cA 75 [(.agg [a0Q,a1f,a1d,a1i,a1N,a1E,a2Y,a2u,a1S,b3Y,c0a,c0z,b9S,(jA 27),(jA 28),a1G,a2J,a3U,b6g])] [] [c1Y] e8e))))
abbrev b0h:BE:=(.eq a0y a0q)
abbrev c2E:List SV:=[a2k,a2s,a2f,a2r,a2L,a4J]
abbrev e1C:List SV:=[b2L,(.agg c2E)]
abbrev c5X:BE:=(.eq a0o a0q)
abbrev c5Z:List SV:=[a5S,a6i,a7K,a8U,a4H,a4K]
abbrev b6s:BE:=(treeI a0f a2H)
abbrev e2j:List IE:=[a0d,a0k,(jP 2),a0g,a0p,a0t,a0u,a0l,a0o]
abbrev e8r:PT:=(cA 118 [a0Q,a2r,b6m] [] a0W (.ite (.lt a0z a0D) a7G (nD a8l (jU 0 e2j [] a0E))))
abbrev c5S:BE:=(.eq a0r a0q)
abbrev c5w:BE:=(.eq a0z a0q)
abbrev b6q:SV:=(.pa 0 0)
abbrev e0r:IE:=(.add (.mul a0d a0u) (.mul a0k a0l))
abbrev e1p:IE:=(.add (.add e0r (.mul a0f a0o)) (.mul a0g a0r))
abbrev e7i:IE:=(.add (.add e1p (.mul a0p a0v)) (.mul a0t a0z))
abbrev e5Y:PT:=(nD (treeB (.mul a0d a0u)) (nD (treeB (.mul a0d a0u)) (nD (treeB (.mul a0k a0l)) (nD (treeB e0r) (nD (treeB (.mul a0f a0o)) (nD (treeB (.add e0r (.mul a0f a0o))) (nD (treeB (.mul a0g a0r)) (nD (treeB e1p) (nD (treeB (.mul a0p a0v)) (nD (treeB (.add e1p (.mul a0p a0v))) (nD (treeB (.mul a0t a0z)) (nD (treeB e7i) (.ret ff (.int .i64 e7i) [])))))))))))))
abbrev e8w:List IE:=[a0q,a0q,a0q,a0q,a0q,a0q,a0q]
abbrev e7d:PT:=(.ite b6x (.ret tt (.tup [a0Q,.nilS]) []) (cA 141 [a1f,a1L] [] a3x (.ret tt (.tup [.nilS,a1d]) [])))
abbrev e6A:List SV:=[(.agg [a2k,a2s,a2f,a2r,a2L,a4J,a5t,a5S,a6i,a7K,a8U,a4H]),(.agg [a4K,a5Q,a6E,a8Q,b3Y,c0a,c0z,b9S,(jA 27),(jA 28),(jA 29),(jA 30)])]
abbrev e2q:IE:=(.add (.a 31) (.a 32))
abbrev d6M:BE:=(treeI a0u a0P)
abbrev d5K:SV:=(.ea 1 a0u 1 0)
abbrev e6u:PT:=(nD (treeI a0u a2Q) (.storeM (.ea 2 a0u 1 0) [a1P] (nD (treeB (jP 6)) (jU 3 [a0u,a0k,a0f,a0g,a0p,a0t,(jP 6)] [] a4L))))
abbrev e7D:PT:=(nD (treeB (jP 6)) (jU 3 [a0d,a0k,a0f,a0g,a0p,a0t,(jP 6)] [] a4L))
abbrev e0A:IE:=(.add (.a 32) (.a 31))
abbrev b6u:List Kd:=[.val,.val,.val,.val]
abbrev d5D:SV:=(.agg [(jE 1),a0O,a0O,a0O,a0O,a0O])
abbrev e2g:List SV:=[a1i,(jE 1),d5D]
abbrev e0t:SV:=(.agg [a2k,a2s,a2f,a2r,a2L,a4J,a1P,a1N,a1E,a2Y,a2u,a2h])
abbrev e6n:PT:=(.ite d6u (.ret tt a7K []) (nD a1k (nD a1k (lO ff a7F a0R (lO ff c3c a0R (nD (treeI a0d (.slen 15)) (.storeM (.ea 15 a0d 6 0) b2w (nD (treeI a0d (.slen 16)) (.storeM (.ea 16 a0d 1 0) [b1e] d1L)))))))))
abbrev e0v:PT:=(cA 56 [(.agg [a7s,b1b,b0X,b1a]),a6i,a1L,b3Z,e0t] [] a0W e6n)
abbrev e8d:PT:=(cA 56 [(.agg [b1b,b0X,b1a,b3Z]),a6i,a1L,a7s,e0t] [] a0W e6n)
abbrev e2b:List SV:=[a1f,a1d,a1i,a1S]
abbrev c3b:BE:=(.lt a1n a2H)
abbrev c2k:BE:=(.lt a2Z a2H)
abbrev c3e:BE:=(.lt a2I a2H)
abbrev c2D:BE:=(.lt a2C a2H)
abbrev c2K:BE:=(.lt a3w a2H)
abbrev e6V:PT:=(nD a1p (.ite (.lt a4P a2H) d6z d6z))
abbrev e7h:PT:=(.ret ff (.agg [a1L,a1P,a1N,a1E,a2Y,a0O]) [])
abbrev e7t:PT:=(.ret ff (.agg [a1L,a1P,a1N,a1E,a0O,a0O]) [])
abbrev e7w:PT:=(.ret ff (.agg [a1L,a1P,a1N,a0O,a0O,a0O]) [])
abbrev e6g:PT:=(.ret ff (.agg [a1L,a1P,a0O,a0O,a0O,a0O]) [])
abbrev e6S:PT:=(.ret ff (.agg [a1L,a0O,a0O,a0O,a0O,a0O]) [])
abbrev c3i:BE:=(.eq a0y a3w)
abbrev c2o:IE:=(.sub a0u a0C)
abbrev c2X:BE:=(.eq a0y a2C)
abbrev c3h:BE:=(.eq a0y a2I)
abbrev c1U:BE:=(.eq a0y a2Z)
abbrev c3l:BE:=(.eq a0y a1n)
abbrev c3m:IE:=(.sub a0t a0C)
abbrev c2R:IE:=(.sub a0p a0C)
abbrev c2Y:IE:=(.sub a0g a0C)
abbrev c2g:IE:=(.sub a0f a0C)
abbrev c2T:IE:=(.sub a0k a0C)
abbrev d6f:PT:=(.ret ff a5S [])
abbrev d1M:PT:=(.ret ff (jE 15) [])
abbrev d5O:PT:=(.ite (.not (.a 2)) d1M a3z)
abbrev e1P:PT:=(cA 87 [e2p] [] a1A d5O)
abbrev e2x:List SV:=[(.agg [a1j,a0Q,a1f,a1d,a1P,a1i]),e2p]
abbrev e1V:PT:=(cA 108 [a3U] [] a1A (.ite (.a 2) a3z d1M))
abbrev e6a:PT:=(.app (sm 5) (.va 4) 12 (.app nO (.lit [[(jA 2),(jA 3),(jA 4),(jA 5),(jA 6),(jA 7),(jA 8),(jA 9),(jA 10),(jA 11),(jA 12),(jA 13)]]) 12 (.app (sm 6) (.va 7) 12 e1V)))
abbrev e5O:PT:=(.app nO (.lit [[(jA 2),(jA 3),(jA 4),(jA 5),(jA 6),(jA 7),(jA 8),(jA 9),(jA 10),(jA 11),(jA 12),(jA 13)]]) 12 (.app (sm 5) (.va 4) 12 (.app (sm 7) (.va 6) 12 e1V)))
abbrev e6q:PT:=(.app nO (.lit [[(jA 2),(jA 3),(jA 4),(jA 5),(jA 6),(jA 7),(jA 8),(jA 9),(jA 10),(jA 11),(jA 12),(jA 13)]]) 12 (.app nO (.lit []) 12 (.app (sm 6) (.va 4) 12 (.app (sm 7) (.va 5) 12 e1V))))
abbrev e1i:BE:=(.not (.eq a2H a0P))
abbrev e7c:PT:=(nD a1p (jU 0 [a0q,a2H,a0q] [] [a1j,a0Q,a1j]))
abbrev d1C:IE:=(.tdiv (.mul a0p a0k) (.l 100))
abbrev e7b:IE:=(.add (.add a0p a0d) (.add d1C a1n))
abbrev e6s:PT:=(.ite (.le (.l 48) a0d) (.ret ff (.bool (.le a0d (.l 57))) []) rF)
abbrev e7M:PT:=(cA 31 [(.pa 9 0)] [] [] (.ret tt (.tup [(.pa 9 0),a0O]) []))
abbrev e8s:PT:=(.newM [a1i,a1S,a1G,a2J,a1L,a1P,a1N,a1E,.nilS,a2h,a2k,a2s,a2f,a2r,a2L,.nilS,.nilS,a3U,a3H] 79 e7M)
abbrev e5H:PT:=(jU 0 [a0l,a0d,a0k,a0f,a0g,a0p,a0t] [] [a1j,a2J])
abbrev e7p:PT:=(lO ff a7F a0R (cA 58 [a2h,b2Y,a1S,a1G] [] d0t e5H))
abbrev e1d:PT:=(cA 58 [a2h,b2Y,a1G,a1S] [] d0t e5H)
abbrev e8p:PT:=(nD a1k (.storeM a5K [a7o] (jU 1 [a0d,a0k,a0f,a0g,a0p,a0t] [] [a1j,a1d])))
abbrev e7v:PT:=(nD a1k (.storeM a5K [a1G] (jU 1 [a0k,a0f,a0g,a0p,a0t,a0u] [] a5J)))
abbrev e5S:PT:=(jU 2 [b9f,a0d,a0k,a0f,a0g,a0p,a0t,a0u,a0l,a0o,a0r,a0v,a0z,a1F,a1X,a2A,a4D,a8h,a4c] [] a0J)
abbrev e0I:PT:=(cA 61 [(.agg [a4J,a5t,a5S,a6i]),(.agg [a7K,a8U,a4H,a4K,a5Q,a6E]),c0x] [] d6E e5S)
abbrev d5W:List Kd:=[jD,jD,jD,jD]
abbrev e6b:PT:=(cA 61 [(.agg [a4H,a4K,a5Q,a6E]),(.agg b9Z),c0x] [] d6E e5S)
abbrev e1t:PT:=(nD a1k (.storeM c0h [b1e] (.ret tt (.tup [b1e,a0O]) [])))
abbrev b4b:SV:=(.ea 0 a0d 9 8)
abbrev b4f:SV:=(.ea 1 a0d 9 8)
abbrev c0e:BE:=(.not (.eq a9Z a6K))
abbrev d1p:BE:=(.not (.eq a2Q a3W))
abbrev c5E:BE:=(.not (.eq a3b a7t))
abbrev e5P:List SV:=[a1j,a0Q,a1f,a1d,a1i,a1S,a1G,a2J]
abbrev c0q:BE:=(.not (.eq a6K a9Z))
abbrev c5N:SV:=(.ea 0 a0d 9 7)
abbrev c5u:SV:=(.ea 1 a0d 9 7)
abbrev c5A:BE:=(.not (.eq a7t a3b))
abbrev d6r:SV:=(.ea 0 a0d 9 6)
abbrev d5I:SV:=(.ea 1 a0d 9 6)
abbrev d0h:BE:=(.not (.eq a3W a2Q))
abbrev e8D:PT:=(nD (treeI a0v (.slen 8)) (.storeM (.ea 8 a0v 1 0) [b1e] (nD e1v (.storeM (.ea 9 a0v 6 0) a1w (nD (treeI a0v (.slen 10)) (.storeM (.ea 10 a0v 1 0) a1h (.ret ff (.tup [(.agg [a1j,a0Q,a1f,a1d,a1L,a1P,a1N,a1E,a1i,a2Y,a2u,a2h,a2k,a2s,a2f,a7o,a7s,a3U,b3K]),a0O]) [])))))))
abbrev e5M:PT:=(nD b2t (.ite (.eq a9Z a0q) (.app nO (.lit []) 1 e8D) (.appM .nilS (.va 6) 1 4 e8D)))
abbrev e6F:PT:=(nD b2N (.ite d6p (.app nO (.lit []) 6 e5M) (.appM .nilS (.va 5) 6 51 e5M)))
abbrev d6t:List BE:=[a3E,a5W,(.a 2),(.a 3)]
abbrev e6K:PT:=(nD (treeB (jP 7)) (jU 1 [a0d,a0k,a0f,a0g,a0p,a0t,a0u,(jP 7)] d6t d1u))
abbrev e0P:PT:=(.ret ff (.tup [.nilS,(jE 4)]) [])
abbrev e7l:PT:=(.ret ff (.tup [.nilS,(jE 3)]) [])
abbrev d5E:PT:=(nD a1u (jU 1 d1x [] a5J))
abbrev e5I:PT:=(nD c7d (.storeM (.ea 1 a0k 6 0) c5Z d5E))
abbrev d6y:List SV:=[.nilS,.nilS]
abbrev e2e:PT:=(.ret ff (.tup [(.agg [a1j,a0Q,a1f,a1d,a1L,a1P,a1N,a1E,.nilS,a2h,a2k,a2s,a2f,a2r,a2L,a1i,a1S,a1G,a3H]),a0O]) [])
abbrev e5J:PT:=(.mkM a0P a1h 4 1 1 (.mkM a0P a1h 4 1 1 e2e))
abbrev e0q:PT:=(.ret ff (.tup [(.agg [a1j,a0Q,a1f,a1d,a1L,a1P,a1N,a1E,.nilS,a2h,a2k,a2s,a2f,a2r,a2L,a1i,a1G,a1S,a3H]),a0O]) [])
abbrev e6B:PT:=(.mkM a0P a1h 4 1 1 (.mkM a0P a1h 4 1 1 e0q))
abbrev e0G:PT:=(.ret ff (.tup [(.agg [a1j,a0Q,a1f,a1d,a1L,a1P,a1N,a1E,.nilS,a2h,a2k,a2s,a2f,a2r,a2L,a1S,a1i,a1G,a3H]),a0O]) [])
abbrev e6W:PT:=(.mkM a0P a1w 51 6 48 (.mkM a0P a1h 4 1 1 e0G))
abbrev e0s:PT:=(.ret ff (.tup [(.agg [a1j,a0Q,a1f,a1d,a1L,a1P,a1N,a1E,.nilS,a2h,a2k,a2s,a2f,a2r,a2L,a1G,a1i,a1S,a3H]),a0O]) [])
abbrev e7k:PT:=(.mkM a0P a1h 4 1 1 (.mkM a0P a1w 51 6 48 e0s))
abbrev e1J:PT:=(.ret ff (.tup [(.agg [a1j,a0Q,a1f,a1d,a1L,a1P,a1N,a1E,.nilS,a2h,a2k,a2s,a2f,a2r,a2L,a1S,a1G,a1i,a3H]),a0O]) [])
abbrev e8o:PT:=(.mkM a0P a1w 51 6 48 (.mkM a0P a1h 4 1 1 e1J))
abbrev e2C:PT:=(.ret ff (.tup [(.agg [a1j,a0Q,a1f,a1d,a1L,a1P,a1N,a1E,.nilS,a2h,a2k,a2s,a2f,a2r,a2L,a1G,a1S,a1i,a3H]),a0O]) [])
abbrev e8t:PT:=(.mkM a0P a1h 4 1 1 (.mkM a0P a1w 51 6 48 e2C))
abbrev e0X:PT:=(.ret ff (.tup [(.agg [a1j,a0Q,a1f,a1d,a1L,a1P,a1N,a1E,.nilS,a2u,a2h,a2k,a2s,a2f,a2r,a1i,a1S,a1G,a3H]),a0O]) [])
abbrev e8y:PT:=(.mkM a0P a1h 4 1 1 (.mkM a0P a1h 4 1 1 e0X))
abbrev e1W:PT:=(.ret ff (.tup [(.agg [a1j,a0Q,a1f,a1d,a1L,a1P,a1N,a1E,.nilS,a2u,a2h,a2k,a2s,a2f,a2r,a1i,a1G,a1S,a3H]),a0O]) [])
abbrev e7o:PT:=(.mkM a0P a1h 4 1 1 (.mkM a0P a1h 4 1 1 e1W))
abbrev e1Q:PT:=(.ret ff (.tup [(.agg [a1j,a0Q,a1f,a1d,a1L,a1P,a1N,a1E,.nilS,a2u,a2h,a2k,a2s,a2f,a2r,a1S,a1i,a1G,a3H]),a0O]) [])
abbrev e8j:PT:=(.mkM a0P a1w 51 6 48 (.mkM a0P a1h 4 1 1 e1Q))
abbrev e2m:PT:=(.ret ff (.tup [(.agg [a1j,a0Q,a1f,a1d,a1L,a1P,a1N,a1E,.nilS,a2u,a2h,a2k,a2s,a2f,a2r,a1G,a1i,a1S,a3H]),a0O]) [])
abbrev e7H:PT:=(.mkM a0P a1h 4 1 1 (.mkM a0P a1w 51 6 48 e2m))
abbrev e1S:PT:=(.ret ff (.tup [(.agg [a1j,a0Q,a1f,a1d,a1L,a1P,a1N,a1E,.nilS,a2u,a2h,a2k,a2s,a2f,a2r,a1S,a1G,a1i,a3H]),a0O]) [])
abbrev e7f:PT:=(.mkM a0P a1w 51 6 48 (.mkM a0P a1h 4 1 1 e1S))
abbrev e0V:PT:=(.ret ff (.tup [(.agg [a1j,a0Q,a1f,a1d,a1L,a1P,a1N,a1E,.nilS,a2u,a2h,a2k,a2s,a2f,a2r,a1G,a1S,a1i,a3H]),a0O]) [])
abbrev e6N:PT:=(.mkM a0P a1h 4 1 1 (.mkM a0P a1w 51 6 48 e0V))
abbrev b4m:List SV:=[.nilS,.nilS,.nilS,.nilS,a0O,a0O,a0O,a0O,.nilS,a0O,a0O,a0O,a0O,a0O,a0O,.nilS,.nilS,.nilS,a3H]
abbrev e6Z:PT:=(nD a7E (.ite (.lt (.l 16) a2Q) b4o (jU 0 [a0q] [] a0E)))
abbrev e1h:List SV:=[a0Q,a1j,a1f,a1d]
abbrev e7L:PT:=(nD a1u (jU 1 [a0d,a1M,a0f,a0g,a0p,a0t] d6t a0E))
abbrev e0e:PT:=(.ret ff (.tup [b0g,(jE 4)]) [])
abbrev e6y:PT:=(nD a6f (.ite (.lt a0v a3b) (nD (treeI a0v a3b) (lO ff (.ea 4 a0v 9 0) a2W (.app nO (.lit []) 9 (.cut 4 nO (sm (.a 10)) 9 (.app (sm 8) (.va 9) 9 (cA 75 [(.agg [a1j,a0Q,a1f,a1d,a1L,a1P,a1N,a1E,a7s,a2L,a4J,a5t,a5S,a6i,a7K,a1S,a1G,a2J,a3H])] [] [c1Y] (.ret ff (.tup [(.agg [b1b,b0X,b1a,b3Z,a8U,a4H,a4K,a5Q,c0v,a6E,a8Q,b3Y,c0a,c0z,b9S,(.va 16),(.va 17),(.va 18),b6g]),a0O]) []))))))) (cA 75 [(.agg [a1j,a0Q,a1f,a1d,a1L,a1P,a1N,a1E,a1i,a2Y,a2u,a2h,a2k,a2s,a2f,a1S,a1G,a2J,a3H])] [] [c1Y] (.ret ff (.tup [(.agg [a3U,a7o,a7s,b1b,a2L,a4J,a5t,a5S,b0X,a6i,a7K,a8U,a4H,a4K,a5Q,b1a,b3Z,c0v,b6g]),a0O]) []))))
abbrev e7T:PT:=(.ret ff (.tup [a0O,a0O,a0O]) [])
abbrev b0e:IE:=(.add a0k a0D)
abbrev c5H:BE:=(treeB b0e)
abbrev b0k:IE:=(.add a0f a0y)
abbrev c5G:BE:=(treeB b0k)
abbrev c5U:BE:=(.eq a0B a0d)
abbrev d5C:SV:=(.ea 0 a0f 6 0)
abbrev e2f:PT:=(nD a8l (jU 0 e2j [] a5J))
abbrev e5T:PT:=(nD b6s (.storeM d5C [a2f,a2r,a2L,a4J,a5t,a5S] e2f))
abbrev e0J:List SV:=[a1P,a1N,a1E,a2Y]
abbrev c5I:SV:=(.agg e0J)
abbrev d5Q:List SV:=[a2u,a2h,a2k,a2s,a2f,a2r]
abbrev d6c:IE:=(.sub (.sat 0 a0f) (.l 48))
abbrev e8C:IE:=(.add (.mul a0k (.l 10)) d6c)
abbrev e0S:IE:=(.add (.mul a0d a0f) (.l 99))
abbrev e6T:IE:=(.add (.add a0d a0k) (.tdiv e0S (.l 100)))
abbrev e8E:List SV:=[a0Q,a1f,a1d,a1i,a1N,a1E,a2Y,a2u,a1S,a2h,a2k,a2s,a2f,a2r,a2L,a1G,a2J,a3U,b3K]
abbrev d0s:List SV:=[a0Q,a1f,a1d,a1i,a1N,a1E,a2Y,a2u,a1S,a2h,a2k,a2s,a2f,a2r,a2L,a1G,a2J,a3U,b6g]
abbrev d6a:List SV:=[a1N,a2Y,a2u]
def b2u:PT:=(cA 14 a0J [] a2n (.ite (.not (.and (.eq a0v a0p) (.and (.eq a0z a0t) (.and (.eq a0D a0u) (.and (.eq a0y a0l) (.and (.eq a0B a0o) (.eq a0C a0r))))))) rF (nD b2N (cA 15 a0J [] a0W (.ite (.not (.eq a0N a7t)) rF (cA 16 a0J [] a1A (.ite (.not (.or (.and a5W a3E) (.and d1n a4h))) rF (cA 34 a0J [] a3x (cA 33 [a7o,a1S] [] a1A (.ite (.not (.a 2)) rF (jU 0 [c3N,a0d,a0k,a0f,a0g,a0p,a0t,a0u,a0l,a0o,a0r] a6Z a7D)))))))))))
def a6v:PT:=(nD (.is 0 8) (.ite (.le a0d (.slen 8)) (cA 26 c1x [] a3x (cA 35 [(.agg e4e),a1L] [] a3x (nD (.is 0 9) (nD (.is 0 10) (.ite (.not (.eq (.slen 9) (.slen 10))) rF (jU 1 [a0d,a0q,a0k,a0f,a0g,a0p,a0t,a0u,a0l,a0o,a0r,a0v] a6Z [a1j,a7o,a7s,a0Q,a1f,a1d,a1i,a1S,a1G,a2J,a3U])))))) a4C))
def a6u:PT:=(nD a3Z (.ite (.lt a0k a0P) (nD c7d (nD c7m (lO ff (.ea 1 a0k 12 0) c3X (lO ff (.ea 2 a0k 12 0) c3X (.ite (.not (.and (.eq a0D a2A) (.and (.eq a0y a4D) (.and (.eq a0B a8h) (.and (.eq a0C a4c) (.and (.eq a0N b9f) (.and (.eq a0T (.a 29)) (.and (.eq a0X (.a 30)) (.and (.eq a1m (.a 31)) (.and (.eq a1b (.a 32)) (.and (.eq a1B (.a 33)) (.and (.eq a1F (.a 34)) (.eq a1X (.a 35)))))))))))))) rF (nD a1u (jU 1 f0x a6Z [a1j,a0Q,a1f,a1d,a1i,a1S,a1G,a2J,a3U,a7o,a7s]))))))) (nD a2c (jU 0 [a1R,a0f,a0g,a0p,a0t,a0u,a0l,a0o,a0r,a0v,a0z] a6Z [a1j,a1d,a1i,a1S,a1G,a2J,a3U,a7o,a7s]))))
def a2M:Qq:=⟨[(.sh (.one .val)),(.sh (.agg [.val,.val,.val,.val,jD,jD,jD,jD,.val,jD,jD,jD,jD,jD,jD,.val,.val,.val,.bool]))],b2u,[a6v,a6u],nO,nO⟩
def c6W:List Cfg:=[{todo:=[(.code (tfR 6 52)),(.inLoop (tfR 6 52)),(.inBlock 0),(.code [tt,tt,tt])],sl:=[(.va 0),(.junk 0),.undef,(.ptr 0 0),(.junk 1),(jA 0)]++jkR 2 64,H:=[(.cells e4e 42 ff)],ni:=11,nb:=1,nv:=9,nj:=66},
 {todo:=[(.code (tfR 14 13468)),(.inLoop (tfR 14 13468)),(.inBlock 2),(.inBlock 1),(.code (tfR 8 211)),(.inLoop (tfR 6 52)),(.inBlock 0),(.code [tt,tt,tt])],sl:=[(.va 0),(.junk 0),.undef,(.ptr 0 0),(.junk 1),(jA 0),(.va 1),(.va 2),(jA 1)]++jkR 2 61,H:=[(.cells [a1d,a1i,a1S,a1G,a1N,a1E,a2Y,a2u,a2J,a2h,a2k,a2s,a2f,a2r,a2L,a3U,a7o,a7s,b3K] 42 ff)],ni:=12,nb:=1,nv:=11,nj:=63}]
def c8J:=okg 11 a2M c6W func11 call11 tt ff [(tfR 6 52),(tfR 14 13468)]
def b5X:PT:=(nD a1p (.cut 0 nO (sm (.mn (.slen 0) (.l 6))) 5 (nD a3Z (jU 0 [a0P,a0q,a0q,a0q,a0q,a0q,a0q,a0q] [] [a0Q]))))
def a8f:PT:=(.ite a8b (nD a3T (lO ff d9m d0U (.ite d1F (jU 0 [a0d,a4P,a0f,a0g,a0p,a0t,a0u,a0r] [] a0J) (.ite d0i (jU 0 [a0d,a3w,a0f,a0g,a0p,a0t,a0r,a0l] [] a0J) (.ite d0c (jU 0 [a0d,a2C,a0f,a0g,a0p,a0r,a0u,a0l] [] a0J) (.ite d1O (jU 0 [a0d,a2I,a0f,a0g,a0r,a0t,a0u,a0l] [] a0J) (.ite c5z (jU 0 [a0d,a2Z,a0f,a0r,a0p,a0t,a0u,a0l] [] a0J) (.ite b4j (jU 0 [a0d,a1n,a0r,a0g,a0p,a0t,a0u,a0l] [] a0J) .stuck)))))))) e0l)
def a4a:Qq:=⟨[(.sh (.one .val))],b5X,[a8f],nO,nO⟩
def d1R:List Cfg:=[{todo:=[(.code (tfR 6 52)),(.inLoop (tfR 6 52)),(.inBlock 0),(.code [tt,tt,tt])],sl:=[(.junk 0),.undef,(.ptr 0 0),(.ptr 1 0)]++jkR 1 6++[(.va 0),(jA 0),(jA 1)]++jkR 7 9++[.undef],H:=[(.cells a1w 38 ff),(.cells b0a 38 ff)],ni:=8,nb:=0,nv:=1,nj:=16}]
def d4h:=okg 19 a4a d1R func19 call19 ff ff [(tfR 6 52)]
def a5d:PT:=(nD b4c (.ite a9Y c5L (.ite b6x e1G (nD a1k (lO ff a5K a0R (nD a3Z (.ite (.lt a0P a0d) e1G (nD a1k (lO ff a5K a0R (nD a7E (.ite (.eq a0d a2Q) (nD a1k (lO ff c0h b0j (.ite a3E e1G e5R))) e5R)))))))))))
def b0z:Qq:=⟨[(.sh (.one .val)),(.sh (.one jD))],a5d,[],nO,nO⟩
def d2X:=okg 27 b0z [] func27 call27 tt tt [] [] [(38,[])]
def a7T:PT:=(jU 0 [a0v,a0q,a0d,a0k,a0f,a0g,a0p,a0t,a0u,a0l,a0o,a0r] a6Z [.nilS,a1j,a0Q,a1f,a1d,a1i,a1S,a1G,a2J])
def a2b:PT:=(nD b2N (.ite (.lt a0k a7t) (.ite d1q (nD (.is 0 8) (.ite (.lt a0d (.slen 8)) (nD (treeI a0k a7t) (nD (treeI a0k a7t) (lO tt (.ea 5 a0k 9 0) a2W (lO tt (.ea 5 a0k 9 6) a0R (nD (treeI a0d (.slen 9)) (lO tt (.ea 9 a0d 6 0) a2W (.app nO (.lit [[(jA 12),(jA 13),(jA 14),(jA 15),(jA 16),(jA 17),(jA 18),(jA 19),(jA 20),(jA 21),(jA 22),(jA 23)]]) 12 (.app (sm 0) (.va 10) 12 (nD a1u (jU 0 f0x a6Z [b1b,a0Q,a1f,a1d,a1i,a1S,a1G,a2J,a3U])))))))))) d5B)) d5B) d5B))
def a2F:Qq:=⟨[(.sh (.agg [.val,.val,.val,.val,jD,jD,jD,jD,.val,jD,jD,jD,jD,jD,jD,.val,.val,.val,.bool])),(.sh (.one jD))],a7T,[a2b],nO,nO⟩
def b9D:List Cfg:=[{todo:=[(.code (tfR 6 52)),(.inLoop (tfR 6 52)),(.inBlock 0),(.code [tt,tt,tt])],sl:=[(.junk 0),(jA 0),(.ptr 0 0),.undef,(.junk 1),(.va 0),(jA 1)]++jkR 2 37++[.undef],H:=[(.cells e8E 42 ff),(.row 0 75 12)],ni:=12,nb:=1,nv:=9,nj:=39}]
def c0C:=okg 35 a2F b9D func35 call35 ff ff [(tfR 6 52)]
def b2E:PT:=(nD a1p (.ite d0p d6w (nD a1p (.ite (.lt a4P a2H) b4o e0Z))))
def a6s:PT:=(nD a1p (.ite b6b (nD a1U (lO ff (.ea 0 a0d 5 0) a0R (cA 76 [a0Q] [] a1A (.ite a4h d6h (jU 1 [a0d,a0q] [] a0J))))) (jU 2 [a1n,a0q] [] a0J)))
def a4T:PT:=(.ite a8b (nD a3T (nD a1U (lO tt d9m a0R (lO tt (.ea 0 a0d 5 0) a0R (nD (.is 3 1) (nD (.is 3 2) (.ite (.seq 1 2) c0g (nD a1u (jU 1 b6o [] a0J))))))))) (nD a1U (lO ff (.ea 0 a0d 5 0) d0U (.ite (.lt a0f a1n) a1e (.ite c0o a1e (.ite b6p a1e (.ite d6m a1e (.ite b6f a1e (.ite (.lt (.l 1000) a0p) a1e (.ite d1s a1e (.ite (.lt a2C a0t) a1e d1f)))))))))))
def a6t:PT:=(nD a1p (.ite b6e (nD a3T (lO ff (.ea 0 a0k 5 1) a0K (nD a8l (nD (treeB (.mul a0d (jP 2))) (nD a1u (jU 2 [(.mul a0d (jP 2)),a1M] [] a0J)))))) (.ite (.lt (.l 1024) a0d) (.ret ff (jE 12) []) a3z)))
def a2i:Qq:=⟨[(.sh (.one .val))],b2E,[a6s,a4T,a6t],nO,nO⟩
def c6P:List Cfg:=[{todo:=[(.code (tfR 7 116)),(.inLoop (tfR 7 116)),(.inBlock 0),(.code [tt,tt,tt,tt])],sl:=[(.va 0),.undef,(.junk 0),(jA 0),(.junk 1),(.junk 2),.undef,.undef]++jkR 3 77++udR 16,H:=[],ni:=1,nb:=0,nv:=1,nj:=80},
 {todo:=[(.code (tfR 15 29844)),(.inLoop (tfR 15 29844)),(.inBlock 2),(.code (tfR 12 3731)),(.inBlock 1),(.code (tfR 9 467)),(.inLoop (tfR 7 116)),(.inBlock 0),(.code [tt,tt,tt,tt])],sl:=[(.va 0),.undef,(.junk 0),(jA 0),(jA 1),(.junk 1),.undef,.undef]++jkR 2 77++udR 16,H:=[],ni:=2,nb:=0,nv:=1,nj:=79},
 {todo:=[(.code (tfR 9 500)),(.inLoop (tfR 9 500)),(.inBlock 4),(.code (tfR 6 63))],sl:=[(.va 0),.undef]++jkR 0 4++[(jA 0),(jA 1)]++jkR 4 91++[.undef,.undef],H:=[],ni:=2,nb:=0,nv:=1,nj:=95}]
def c9s:=okg 43 a2i c6P func43 call43 ff ff [(tfR 7 116),(tfR 15 29844),(tfR 9 500)]
def a9G:PT:=(nD a1p (.mkM a2H a1w 51 6 48 (.copyM 1 0 6 d6x)))
def a9C:Qq:=⟨[(.sh (.one .val))],a9G,[],nO,nO⟩
def c4g:=okg 51 a9C [] func51 call51 tt tt
def b1Q:PT:=(nD a1k (nD a1k (lO ff a5K a0R (nD a3Z (nD (treeB (.sub a0P a1n)) (lO ff a5K a0R (nD (treeI (.sub a0P a1n) a2Q) (lO ff (.ea 2 (.sub a0P a1n) 9 7) a0R (cA 51 [a1d] [] a3x (nD a1k (lO ff b2P a0R (nD b2N (jU 0 [a7t,a0q] [] [a1i,a1S])))))))))))))
def a4I:PT:=(.ite a8b (nD c7d (lO ff (.ea 1 a0k 1 0) b0j (.ite a3E (nD a3T (.storeM c2f a1w d5Z)) d5Z))) (.ret tt a1j []))
def a4V:Qq:=⟨[(.sh (.one .val))],b1Q,[a4I],nO,nO⟩
def c4O:List Cfg:=[{todo:=[(.code (tfR 6 52)),(.inLoop (tfR 6 52)),(.inBlock 0),(.code [tt,tt,tt])],sl:=[(.junk 0),.undef,(.junk 1),(.va 0)]++jkR 2 19++[(.va 1),(jA 0),(jA 1)]++jkR 21 10++[.undef],H:=[],ni:=2,nb:=0,nv:=2,nj:=31}]
def c7Z:=okg 59 a4V c4O func59 call59 tt tt [(tfR 6 52)]
def a1Y:PT:=(nD a1p (.ite a9Y d1m (.app nO (.lit []) 5 (.app (sm 1) (.va 0) 5 d6G))))
def a7Z:Qq:=⟨[(.sh (.one .val))],a1Y,[],nO,nO⟩
def b3c:List Cfg:=[]
def a4i:PT:=(nD b0f (.mkM a6K a1w 51 6 48 (nD b0f (.mkM a6K a1h 4 1 1 (.ret ff e8i [])))))
def a7S:Qq:=⟨[(.sh (.agg [.val,.val,.val,.val,jD,jD,jD,jD,.val,jD,jD,jD,jD,jD,jD,.val,.val,.val,.bool]))],a4i,[],nO,nO⟩
def c1f:=okg 75 a7S [] func75 call75 ff ff
def a8j:PT:=e1r
def b2z:PT:=(.appF 4 (.va 5) 12 (.both a8j a8j))
def b2A:PT:=(.appF 4 (.va 5) 12 e1r)
def b2r:PT:=(.app nO (.lit [[(jA 1),(jA 2),(jA 3),(jA 4),(jA 5),(jA 6),(jA 7),(jA 8),(jA 9),(jA 10),(jA 11),(jA 12)]]) 12 (.both b2z b2A))
def b2B:PT:=(.app nO (.lit [[(jA 1),(jA 2),(jA 3),(jA 4),(jA 5),(jA 6),(jA 7),(jA 8),(jA 9),(jA 10),(jA 11),(jA 12)]]) 12 (.appF 4 (.va 5) 12 e1r))
def a6N:PT:=(nD a6f (nD a6f (.chk 4 12 (.both b2r b2B))))
def a9K:Qq:=⟨[(.sh (.agg [.val,.val,.val,.val,jD,.val])),(.sh (.agg [jD,jD,jD,jD,jD,jD,jD,jD,jD,jD,jD,jD]))],a6N,[],nO,nO⟩
def c4v:=okg 83 a9K [] func83 call83 ff ff
def b4J:PT:=e6X
def a7f:PT:=(.ite d6F (.ite d1E (.ite (.lt a2A a0X) (nD (treeB (.sub a0D a0X)) (nD (treeB (.add (.sub a0D a0X) a2A)) (.ite (.lt (.add (.sub a0D a0X) a2A) a0u) a4C e2t))) e2t) (.ite d0n (.ite (.lt a1X a0T) (nD (treeB (.sub a0z a0T)) (nD (treeB (.add (.sub a0z a0T) a1X)) (.ite (.lt (.add (.sub a0z a0T) a1X) a0t) a4C e2D))) e2D) (.ite b6n (.ite (.lt a1F a0N) (nD (treeB (.sub a0v a0N)) (nD (treeB (.add (.sub a0v a0N) a1F)) (.ite (.lt (.add (.sub a0v a0N) a1F) a0p) a4C e0U))) e0U) (.ite b4g (.ite (.lt a1B a0C) (nD (treeB (.sub a0r a0C)) (nD (treeB (.add (.sub a0r a0C) a1B)) (.ite (.lt (.add (.sub a0r a0C) a1B) a0g) a4C e2c))) e2c) (.ite b3X (.ite (.lt a1b a0B) (nD (treeB (.sub a0o a0B)) (nD (treeB (.add (.sub a0o a0B) a1b)) (.ite (.lt (.add (.sub a0o a0B) a1b) a0f) a4C e1f))) e1f) (.ite b4k (.ite (.lt a1m a0y) (nD (treeB (.sub a0l a0y)) (nD (treeB (.add (.sub a0l a0y) a1m)) (.ite (.lt (.add (.sub a0l a0y) a1m) a0k) a4C e1Z))) e1Z) .stuck)))))) rF)
def a3K:Qq:=⟨[(.sh (.agg [jD,jD,jD,jD,jD,jD])),(.sh (.agg [jD,jD,jD,jD,jD,jD])),(.sh (.agg [jD,jD,jD,jD,jD,jD])),(.sh (.agg [jD,jD,jD,jD,jD,jD]))],b4J,[a7f],nO,nO⟩
def c9W:List Cfg:=[{todo:=[(.code (tfR 5 20)),(.inLoop (tfR 5 20)),(.inBlock 0),(.code [tt,tt])],sl:=jkR 0 4++[(.ptr 0 0),(.ptr 1 0),(.ptr 2 0),(.ptr 3 0),(.junk 4),(.junk 5),(jA 0)]++jkR 6 27,H:=[(.cells b2w 51 ff),(.cells c2E 51 ff),(.cells c3s 51 ff),(.cells e2u 51 ff)],ni:=25,nb:=0,nv:=0,nj:=33}]
def d2m:=okg 91 a3K c9W func91 call91 ff ff [(tfR 5 20)]
def b8L:PT:=(.ite (.le a0k a0d) (.ret ff (.bool (.le a0d a0f)) []) rF)
def b8z:Qq:=⟨[(.sh (.one jD)),(.sh (.one jD)),(.sh (.one jD))],b8L,[],nO,nO⟩
def d5x:=okg 99 b8z [] func99 call99 ff ff
def a8H:PT:=(cA 102 [a3h,a1L] [] a1A (.ite a4h a3z (nD a2R (lO ff (.ea 1 a0d 4 3) a0K (jU 0 [a0k,a0q] [] [a1i,a1j,a0Q,a1f,a1d])))))
def a4p:PT:=(nD a1p (.ite b6e (nD a3T (lO tt e2h a2W (cA 106 [(.agg [a0Q,a1f,a1d,a1i]),c2G] [] a0W (nD a1u (jU 0 [(.mn a0d a0o),a1M] [] d1u))))) d6o))
def a3Q:Qq:=⟨[(.sh (.agg [.val,.val,.val,.val])),(.sh (.one jD)),(.sh (.one .val))],a8H,[a4p],nO,nO⟩
def c0N:List Cfg:=[{todo:=[(.code (tfR 7 116)),(.inLoop (tfR 7 116)),(.inBlock 0),(.code [tt,tt,tt,tt])],sl:=[(.junk 0),(.junk 1),(.va 0),(.ptr 0 0),.undef,.undef,(.junk 2),(jA 0),(jA 1)]++jkR 3 25++[.undef],H:=[(.cells [a0Q,a1f,a1d,a1i] 27 ff)],ni:=2,nb:=0,nv:=5,nj:=28}]
def c2F:=okg 107 a3Q c0N func107 call107 ff ff [(tfR 7 116)]
def c2i:PT:=(cA 57 a0J [] a2n (nD b1d (jU 0 [a3W,a0q,a0d,a0k,a0f,a0g,a0p,a0t,a0q,a0q,a0q,a0q,a0q,a0q] [] [a1d,a1j,a0Q,a1f])))
def b1w:PT:=(.ite a8b (nD a3T (lO ff (.ea 0 a0k 3 0) b3V (.ite c2H (nD (treeB c2b) (.ite c2H (nD a1u (jU 0 [a0d,a1M,a0f,a0g,a0p,a0t,a0u,c2b,a0o,a0r,a0v,a0z,a0D,a0C] [] a0E)) (.ite c2N (nD a1u (jU 0 [a0d,a1M,a0f,a0g,a0p,a0t,a0u,c2b,a0o,a0r,a0v,a0z,a0C,a0y] [] a0E)) (.ite c2e (nD a1u (jU 0 [a0d,a1M,a0f,a0g,a0p,a0t,a0u,c2b,a0o,a0r,a0v,a0C,a0D,a0y] [] a0E)) (.ite c2c (nD a1u (jU 0 [a0d,a1M,a0f,a0g,a0p,a0t,a0u,c2b,a0o,a0r,a0C,a0z,a0D,a0y] [] a0E)) (.ite c2S (nD a1u (jU 0 [a0d,a1M,a0f,a0g,a0p,a0t,a0u,c2b,a0o,a0C,a0v,a0z,a0D,a0y] [] a0E)) (.ite b4a (nD a1u (jU 0 [a0d,a1M,a0f,a0g,a0p,a0t,a0u,c2b,a0C,a0r,a0v,a0z,a0D,a0y] [] a0E)) .stuck))))))) (.ite c2N (nD (treeB c3g) (.ite c2H (nD a1u (jU 0 [a0d,a1M,a0f,a0g,a0p,a0t,c3g,a0l,a0o,a0r,a0v,a0z,a0D,a0C] [] a0E)) (.ite c2N (nD a1u (jU 0 [a0d,a1M,a0f,a0g,a0p,a0t,c3g,a0l,a0o,a0r,a0v,a0z,a0C,a0y] [] a0E)) (.ite c2e (nD a1u (jU 0 [a0d,a1M,a0f,a0g,a0p,a0t,c3g,a0l,a0o,a0r,a0v,a0C,a0D,a0y] [] a0E)) (.ite c2c (nD a1u (jU 0 [a0d,a1M,a0f,a0g,a0p,a0t,c3g,a0l,a0o,a0r,a0C,a0z,a0D,a0y] [] a0E)) (.ite c2S (nD a1u (jU 0 [a0d,a1M,a0f,a0g,a0p,a0t,c3g,a0l,a0o,a0C,a0v,a0z,a0D,a0y] [] a0E)) (.ite b4a (nD a1u (jU 0 [a0d,a1M,a0f,a0g,a0p,a0t,c3g,a0l,a0C,a0r,a0v,a0z,a0D,a0y] [] a0E)) .stuck))))))) (.ite c2e (nD (treeB c1Z) (.ite c2H (nD a1u (jU 0 [a0d,a1M,a0f,a0g,a0p,c1Z,a0u,a0l,a0o,a0r,a0v,a0z,a0D,a0C] [] a0E)) (.ite c2N (nD a1u (jU 0 [a0d,a1M,a0f,a0g,a0p,c1Z,a0u,a0l,a0o,a0r,a0v,a0z,a0C,a0y] [] a0E)) (.ite c2e (nD a1u (jU 0 [a0d,a1M,a0f,a0g,a0p,c1Z,a0u,a0l,a0o,a0r,a0v,a0C,a0D,a0y] [] a0E)) (.ite c2c (nD a1u (jU 0 [a0d,a1M,a0f,a0g,a0p,c1Z,a0u,a0l,a0o,a0r,a0C,a0z,a0D,a0y] [] a0E)) (.ite c2S (nD a1u (jU 0 [a0d,a1M,a0f,a0g,a0p,c1Z,a0u,a0l,a0o,a0C,a0v,a0z,a0D,a0y] [] a0E)) (.ite b4a (nD a1u (jU 0 [a0d,a1M,a0f,a0g,a0p,c1Z,a0u,a0l,a0C,a0r,a0v,a0z,a0D,a0y] [] a0E)) .stuck))))))) (.ite c2c (nD (treeB c2y) (.ite c2H (nD a1u (jU 0 [a0d,a1M,a0f,a0g,c2y,a0t,a0u,a0l,a0o,a0r,a0v,a0z,a0D,a0C] [] a0E)) (.ite c2N (nD a1u (jU 0 [a0d,a1M,a0f,a0g,c2y,a0t,a0u,a0l,a0o,a0r,a0v,a0z,a0C,a0y] [] a0E)) (.ite c2e (nD a1u (jU 0 [a0d,a1M,a0f,a0g,c2y,a0t,a0u,a0l,a0o,a0r,a0v,a0C,a0D,a0y] [] a0E)) (.ite c2c (nD a1u (jU 0 [a0d,a1M,a0f,a0g,c2y,a0t,a0u,a0l,a0o,a0r,a0C,a0z,a0D,a0y] [] a0E)) (.ite c2S (nD a1u (jU 0 [a0d,a1M,a0f,a0g,c2y,a0t,a0u,a0l,a0o,a0C,a0v,a0z,a0D,a0y] [] a0E)) (.ite b4a (nD a1u (jU 0 [a0d,a1M,a0f,a0g,c2y,a0t,a0u,a0l,a0C,a0r,a0v,a0z,a0D,a0y] [] a0E)) .stuck))))))) (.ite c2S (nD (treeB c1R) (.ite c2H (nD a1u (jU 0 [a0d,a1M,a0f,c1R,a0p,a0t,a0u,a0l,a0o,a0r,a0v,a0z,a0D,a0C] [] a0E)) (.ite c2N (nD a1u (jU 0 [a0d,a1M,a0f,c1R,a0p,a0t,a0u,a0l,a0o,a0r,a0v,a0z,a0C,a0y] [] a0E)) (.ite c2e (nD a1u (jU 0 [a0d,a1M,a0f,c1R,a0p,a0t,a0u,a0l,a0o,a0r,a0v,a0C,a0D,a0y] [] a0E)) (.ite c2c (nD a1u (jU 0 [a0d,a1M,a0f,c1R,a0p,a0t,a0u,a0l,a0o,a0r,a0C,a0z,a0D,a0y] [] a0E)) (.ite c2S (nD a1u (jU 0 [a0d,a1M,a0f,c1R,a0p,a0t,a0u,a0l,a0o,a0C,a0v,a0z,a0D,a0y] [] a0E)) (.ite b4a (nD a1u (jU 0 [a0d,a1M,a0f,c1R,a0p,a0t,a0u,a0l,a0C,a0r,a0v,a0z,a0D,a0y] [] a0E)) .stuck))))))) (.ite b4a (nD (treeB c3d) (.ite c2H (nD a1u (jU 0 [a0d,a1M,c3d,a0g,a0p,a0t,a0u,a0l,a0o,a0r,a0v,a0z,a0D,a0C] [] a0E)) (.ite c2N (nD a1u (jU 0 [a0d,a1M,c3d,a0g,a0p,a0t,a0u,a0l,a0o,a0r,a0v,a0z,a0C,a0y] [] a0E)) (.ite c2e (nD a1u (jU 0 [a0d,a1M,c3d,a0g,a0p,a0t,a0u,a0l,a0o,a0r,a0v,a0C,a0D,a0y] [] a0E)) (.ite c2c (nD a1u (jU 0 [a0d,a1M,c3d,a0g,a0p,a0t,a0u,a0l,a0o,a0r,a0C,a0z,a0D,a0y] [] a0E)) (.ite c2S (nD a1u (jU 0 [a0d,a1M,c3d,a0g,a0p,a0t,a0u,a0l,a0o,a0C,a0v,a0z,a0D,a0y] [] a0E)) (.ite b4a (nD a1u (jU 0 [a0d,a1M,c3d,a0g,a0p,a0t,a0u,a0l,a0C,a0r,a0v,a0z,a0D,a0y] [] a0E)) .stuck))))))) .stuck)))))))) (.ret ff (.tup [c2G,b2s]) []))
def a5F:Qq:=⟨[(.sh (.agg [.val,.val,.val,.val]))],c2i,[b1w],nO,nO⟩
def d6V:List Cfg:=[{todo:=[(.code (tfR 6 52)),(.inLoop (tfR 6 52)),(.inBlock 0),(.code [tt,tt,tt])],sl:=[(.junk 0),(.junk 1),(.ptr 1 0),(.ptr 2 0),.undef]++jkR 2 5++[(.va 0),(jA 0),(jA 1)]++jkR 7 17++[.undef,.undef],H:=[(.cells [a0Q,a1f,a1d,a1j] 27 ff),(.cells b0a 51 ff),(.cells b9U 51 ff)],ni:=14,nb:=0,nv:=4,nj:=24}]
def d9e:=okg 115 a5F d6V func115 call115 ff ff [(tfR 6 52)]
def c3f:PT:=(cA 136 [a1L] [] a1A (.ite a4h a1e a3z))
def c2d:Qq:=⟨[(.sh (.one jD))],c3f,[],nO,nO⟩
def d9i:=okg 123 c2d [] func123 call123 ff ff
def a8g:PT:=(cA 63 a0J [] a0W (.ite (.not c2L) a3z (cA 85 [b2Y] [] a0W (.ite c0i a3z (nD a1p (jU 0 [a0q,a2H,a0q,a0d,a0k,a0f,a0g,a0p,a0t] [] [a0Q,a1j]))))))
def a3C:PT:=(.ite b6k (nD c2l (lO ff (.ea 1 a0f 5 0) d0U (.ite (.eq a0f a3w) (.callv 0 c5R a0W (nD (treeB (.mul a0o a0y)) (nD (treeB (.add a0d (.mul a0o a0y))) (jU 0 [(.add a0d (.mul a0o a0y)),a0k,a4P,a0g,a0p,a0t,a0u,a0l,a0o] [] a5J)))) (.ite (.eq a0f a2C) (.callv 0 c5R a0W (nD (treeB (.mul a0l a0y)) (nD (treeB (.add a0d (.mul a0l a0y))) (jU 0 [(.add a0d (.mul a0l a0y)),a0k,a3w,a0g,a0p,a0t,a0u,a0l,a0o] [] a5J)))) (.ite (.eq a0f a2I) (.callv 0 c5R a0W (nD (treeB (.mul a0u a0y)) (nD (treeB (.add a0d (.mul a0u a0y))) (jU 0 [(.add a0d (.mul a0u a0y)),a0k,a2C,a0g,a0p,a0t,a0u,a0l,a0o] [] a5J)))) (.ite (.eq a0f a2Z) (.callv 0 c5R a0W (nD (treeB (.mul a0t a0y)) (nD (treeB (.add a0d (.mul a0t a0y))) (jU 0 [(.add a0d (.mul a0t a0y)),a0k,a2I,a0g,a0p,a0t,a0u,a0l,a0o] [] a5J)))) (.ite (.eq a0f a1n) (.callv 0 c5R a0W (nD (treeB (.mul a0p a0y)) (nD (treeB (.add a0d (.mul a0p a0y))) (jU 0 [(.add a0d (.mul a0p a0y)),a0k,a2Z,a0g,a0p,a0t,a0u,a0l,a0o] [] a5J)))) (.ite d1H (.callv 0 c5R a0W (nD (treeB (.mul a0g a0y)) (nD (treeB (.add a0d (.mul a0g a0y))) (jU 0 [(.add a0d (.mul a0g a0y)),a0k,a1n,a0g,a0p,a0t,a0u,a0l,a0o] [] a5J)))) .stuck)))))))) d6o)
def a3M:Qq:=⟨[(.sh (.agg [.val,jD,jD,jD,jD,jD,jD])),(.sh (.one .val))],a8g,[a3C],nO,nO⟩
def c8R:List Cfg:=[{todo:=[(.code (tfR 7 116)),(.inLoop (tfR 7 116)),(.inBlock 0),(.code [tt,tt,tt,tt])],sl:=[(.junk 0),(.va 0),(.ptr 0 0),.undef,(.junk 1),(jA 0)]++jkR 2 13++[(.va 1),(jA 1),(jA 2)]++jkR 15 15++[.undef],H:=[(.cells [a0Q,a1E,a2Y,a2u,a2h,a2k,a2s] 173 ff)],ni:=9,nb:=0,nv:=2,nj:=30}]
def d2G:=okg 131 a3M c8R func131 call131 ff ff [(tfR 7 116)] [] [(31,[2])]
def b9G:PT:=(.ite b6x rF (.ite (.lt a8T a0d) rF (.ite c5C rF (.ite (.lt a8T a0k) rF (.ite c0j rF (.ite (.lt a8T a0f) rF (.ite b6p rF (.ite d6m rF (.ite b6f rF (.ite (.lt a8T a0p) rF (.ite d1s rF (.ite (.lt a8T a0t) rF (cA 85 [c0x] [] a0W (.ret ff (.bool d1U) []))))))))))))))
def b9z:Qq:=⟨[(.sh (.agg [jD,jD,jD,jD,jD,jD,jD,jD,jD,jD,jD,jD]))],b9G,[],nO,nO⟩
def d6O:=okg 139 b9z [] func139 call139 ff ff
def a5k:PT:=(cA 7 [a3h,a1i] [] a1A (.ite a3E e6z (cA 9 e5L [] d0t (cA 10 e5L [] c5y (.ite (.not (.eq a0p a0C)) rF (nD (.is 4 5) (.ite (.not (.or (.and (.not (.nil 5)) c0c) (.and (.nil 5) (.not c0c)))) rF (jU 0 [a0q,a0d,a0k,a0f,a0g,a0t,a0u,a0l,a0o,a0r,a0v,a0z,a0D,a0y,a0B] [a5W] [a1i,a1S,a1j,a0Q,a1f,a1d,a1G,a2J,a3U,a7o,a7s,b1b,b0X,b1a]))))))))
def a7W:PT:=e6d
def b2l:PT:=(lO ff d5U e1L (.both a7W a7W))
def b2k:PT:=(lO ff d5U e1L e6d)
def a3t:PT:=(nD a1p (.ite b6b (nD (.is 4 1) (.ite (.not (.nil 1)) (nD a1U (lO ff d5U e1L (cA 12 [a0Q,(.agg [a6i,a7K,a8U,a4H,a4K,a5Q,a6E,a8Q,b3Y])] [] [b5T,a7e] (nD a1U (.both b2l b2k))))) e5K)) e5K))
def a9g:PT:=(.ite (.not (.or (.and a3E a5W) (.and a4h d1n))) rF (.ite (.not (.eq a0k a0f)) rF (cA 14 [a0Q] [] a2n (.ite (.not (.and (.eq a4c a1B) (.and (.eq b9f a1F) (.and (.eq (.a 29) a1X) (.and (.eq (.a 30) a2A) (.and (.eq (.a 31) a4D) (.eq (.a 32) a8h))))))) rF (nD (.is 0 18) (cA 15 [a0Q] [] a0W (.ite (.not (.eq (.a 33) (.slen 18))) rF (cA 16 [a0Q] [] a1A (.ite (.not (.or (.and (.a 5) (.a 4)) (.and (.not (.a 5)) d5V))) rF (nD a2c (jU 0 [a1R,a0g,a0p,a0t,a0u,a0T,a0X,a1m,a1b,a1B,a1F,a1X,a2A,a4D,a8h] [(.a 4)] [a1j,a0Q,a1f,a1d,a1i,a1S,b3Z,c0v,(.va 16),(.va 17),(.va 18),(.va 19),(.va 20),(.va 21)])))))))))))
def a3f:Qq:=⟨[(.sh (.agg [.val,.val,.val,.val])),(.sh (.agg [jD,jD,jD,jD])),(.sh (.one .val))],a5k,[a3t,a9g],nO,nO⟩
def c2u:List Cfg:=[{todo:=[(.code (tfR 9 500)),(.inLoop (tfR 9 500)),(.inBlock 0),(.code (tfR 6 63))],sl:=[(.junk 0),(.junk 1),(.va 0),(.junk 2),(.junk 3),.undef,(.junk 4),(.va 1),(.junk 5),(.ptr 2 0),(.junk 6),(jA 0)]++jkR 7 8++[.undef]++jkR 15 82++udR 10,H:=[(.cells e2b 27 ff),(.cells e0J 29 ff),(.cells e1x 42 ff)],ni:=15,nb:=1,nv:=14,nj:=97},
 {todo:=[(.code (tfR 15 32038)),(.code (tfR 15 32039)),(.inBlock 1),(.code (tfR 11 2003)),(.inLoop (tfR 9 500)),(.inBlock 0),(.code (tfR 6 63))],sl:=[(.junk 0),(.junk 1),(.va 0),(.junk 2),(.junk 3),.undef,(.junk 4),(.va 1),(.junk 5),(.ptr 2 0),(.junk 6),(jA 0),(.bool (.a 0)),(jA 1),(.ptr 3 0),(.bool (.a 1)),(jA 2),(.junk 7),(.junk 8),(.junk 9),.undef]++jkR 10 27++[(.va 1),(.bool (.a 2))]++jkR 37 53++udR 10,H:=[(.cells e2b 27 ff),(.cells [a1E,a2Y,a2u,a2h] 29 ff),(.cells [a1G,a2J,a3U,a7o,a2k,a2s,a2f,a2r,a7s,a2L,a4J,a5t,a5S,a6i,a7K,b1b,b0X,b1a,(.bool (.a 3))] 42 ff),(.cells [b3Z,c0v,(.va 16),(.va 17),a8U,a4H,a4K,a5Q,(.va 18),a6E,a8Q,b3Y,c0a,c0z,b9S,(.va 19),(.va 20),(.va 21),(.bool (.a 4))] 42 ff)],ni:=27,nb:=5,nv:=22,nj:=90}]
def c4f:=okg 4 a3f c2u func4 call4 tt ff [(tfR 9 500)] [] [] [(tfR 14 16019)]
def a4E:PT:=(.ite b4k (cA 24 [a1j,a1P,b6m] [] a0W d5G) (.ite b3X (cA 25 a0J [] [b5T,a7e] (.ret tt (.tup [b3K,a2f]) [])) (.ite b4g (cA 36 a0J [] a0W d5G) (.ite b6n (cA 37 [a1j,a1P] [] a0W d5G) (cA 27 [a1j,a1N] [] a0W d5G)))))
def b5t:Qq:=⟨[(.sh (.one .val)),(.sh (.agg [jD,jD,jD,jD,jD,jD,jD,jD,jD]))],a4E,[],nO,nO⟩
def d3W:=okg 12 b5t [] func12 call12 tt tt
def b3q:PT:=(nD b4c (.ite a9Y (.ret tt .nilS []) (nD a1k (lO ff a5K a0R (cA 45 [a0Q,(.fn 46 0 [])] [] a3x (.ret tt a1f []))))))
def b3w:Qq:=⟨[(.sh (.one .val))],b3q,[],nO,nO⟩
def d0G:=okg 20 b3w [] func20 call20 tt tt
def c4n:PT:=(cA 63 a0J [] a0W (.ite c5Q d6o (cA 64 [a0Q] [] a0W (.ite (.not b4j) e2l (cA 65 [a3h] [] a0W (.ite (.not d1H) (.ret ff a1N []) (cA 66 [a3h] [] a0W (.ret ff a1E []))))))))
def c4E:Qq:=⟨[(.sh (.agg [.val,.val,.val,.val]))],c4n,[],nO,nO⟩
def e2B:=okg 28 c4E [] func28 call28 ff ff
def b1p:PT:=(nD b4c (.ite a9Y c5L (nD a1k (lO ff c0h b0j (.ite a3E d6B (cA 31 a0J [] [] (nD a1k (.storeM c0h [b1e] d1L))))))))
def b1u:Qq:=⟨[(.sh (.one .val))],b1p,[],nO,nO⟩
def d3R:=okg 36 b1u [] func36 call36 tt tt
def b2R:PT:=(nD a1p (.ite d0p d6w (nD a1p (.ite d6A b4o e0Z))))
def a6o:PT:=(nD a1p (.ite b6b (nD a1U (lO ff (.ea 0 a0d 4 0) a0R (cA 77 [a0Q] [] a1A (.ite a4h d6h (nD a1U (lO ff (.ea 0 a0d 4 0) a0R (cA 78 [a1j,a1f] [] [a7e,b5T] (.ite (.not (.eq a0k a0d)) c0g (nD a1U (lO ff (.ea 0 a0d 4 1) a0K (.ite c0j a1e (nD a1U (lO ff (.ea 0 a0d 4 1) a0K (.ite c3n a1e (nD a1U (lO ff (.ea 0 a0d 4 2) a0K (.ite b6f a1e (nD a1U (lO ff (.ea 0 a0d 4 2) a0K (.ite (.lt a8T a0t) a1e (nD a1U (lO ff (.ea 0 a0d 4 3) a0K (.ite (.lt a0u a0q) a1e (nD a1U (lO ff (.ea 0 a0d 4 3) a0K (.ite (.lt (.l 24000) a0l) a1e d1f)))))))))))))))))))))))))) a3z))
def a5r:Qq:=⟨[(.sh (.one .val))],b2R,[a6o],nO,nO⟩
def c6w:List Cfg:=[{todo:=[(.code (tfR 7 116)),(.inLoop (tfR 7 116)),(.inBlock 0),(.code [tt,tt,tt,tt])],sl:=[(.va 0),.undef,(.junk 0),(jA 0)]++jkR 1 80,H:=[],ni:=1,nb:=0,nv:=1,nj:=81}]
def c9e:=okg 44 a5r c6w func44 call44 ff ff [(tfR 7 116)]
def b4F:PT:=(nD a1p (.mkM a2H a1h 4 1 1 (.copyM 1 0 1 d6x)))
def b4P:Qq:=⟨[(.sh (.one .val))],b4F,[],nO,nO⟩
def d2N:=okg 52 b4P [] func52 call52 tt tt
def c1T:PT:=(cA 94 a0J [] a2n (cA 93 [c0x,b2Y] [] a2n (.ret ff (.agg b9Z) [])))
def c2M:Qq:=⟨[(.sh (.agg [jD,jD,jD,jD,jD,jD])),(.sh (.one .val))],c1T,[],nO,nO⟩
def d9R:=okg 60 c2M [] func60 call60 tt ff
def a2l:PT:=(nD a1p (.ite a9Y d1m (.app nO (.lit []) 4 (.app (sm 1) (.va 0) 4 d6G))))
def a8L:Qq:=⟨[(.sh (.one .val))],a2l,[],nO,nO⟩
def b3T:List Cfg:=[]
def b2a:PT:=(nD b1c (.ite (.lt c2x a1n) rF (nD b1c (.ite (.lt (.l 12) c2x) rF e0Z))))
def a5Z:PT:=(nD b1c (.ite (.lt a0d c2x) (nD b1c (nD d0j (.ite (.le (.l 97) d0T) (nD b1c (nD d0j (.ite (.not (.le d0T (.l 122))) e8x d1f))) e8x))) a4C))
def a4W:Qq:=⟨[(.sh (.one .val))],b2a,[a5Z],nO,nO⟩
def c4S:List Cfg:=[{todo:=[(.code (tfR 6 52)),(.inLoop (tfR 6 52)),(.inBlock 0),(.code [tt,tt,tt])],sl:=[(.va 0),.undef,(.junk 0),(jA 0)]++jkR 1 49,H:=[],ni:=1,nb:=0,nv:=1,nj:=50}]
def c7Y:=okg 76 a4W c4S func76 call76 ff ff [(tfR 6 52)]
def a9F:PT:=(cA 82 e0F [] a1A (.ite a3E a4C (cA 83 e0F [] a1A (.ret ff b6g []))))
def a9N:Qq:=⟨[(.sh (.agg [.val,.val,.val,.val,jD,.val])),(.sh (.agg [jD,jD,jD,jD,jD,jD,jD,jD,jD,jD,jD,jD]))],a9F,[],nO,nO⟩
def c4C:=okg 84 a9N [] func84 call84 ff ff
def b5Q:PT:=e6X
def a8a:PT:=(.ite d6F (.ite d1E (.ite (.lt a2A a0X) (nD (treeB (.sub a0X a2A)) (nD (treeB (.sub a0D a0u)) (nD (treeB e8n) (jU 0 [a4P,a0k,a0f,a0g,a0p,a0t,a0u,a0l,a0o,a0r,a0v,a0z,a0D,a0y,a0B,a0C,a0N,a0T,a0X,a1m,a1b,a1B,a1F,a1X,e8n] [] [])))) e2t) (.ite d0n (.ite (.lt a1X a0T) (nD (treeB (.sub a0T a1X)) (nD (treeB (.sub a0z a0t)) (nD (treeB e6r) (jU 0 [a3w,a0k,a0f,a0g,a0p,a0t,a0u,a0l,a0o,a0r,a0v,a0z,a0D,a0y,a0B,a0C,a0N,a0T,a0X,a1m,a1b,a1B,a1F,e6r,a2A] [] [])))) e2D) (.ite b6n (.ite (.lt a1F a0N) (nD (treeB (.sub a0N a1F)) (nD (treeB (.sub a0v a0p)) (nD (treeB e7U) (jU 0 [a2C,a0k,a0f,a0g,a0p,a0t,a0u,a0l,a0o,a0r,a0v,a0z,a0D,a0y,a0B,a0C,a0N,a0T,a0X,a1m,a1b,a1B,e7U,a1X,a2A] [] [])))) e0U) (.ite b4g (.ite (.lt a1B a0C) (nD (treeB (.sub a0C a1B)) (nD (treeB (.sub a0r a0g)) (nD (treeB e7n) (jU 0 [a2I,a0k,a0f,a0g,a0p,a0t,a0u,a0l,a0o,a0r,a0v,a0z,a0D,a0y,a0B,a0C,a0N,a0T,a0X,a1m,a1b,e7n,a1F,a1X,a2A] [] [])))) e2c) (.ite b3X (.ite (.lt a1b a0B) (nD (treeB (.sub a0B a1b)) (nD (treeB (.sub a0o a0f)) (nD (treeB e7O) (jU 0 [a2Z,a0k,a0f,a0g,a0p,a0t,a0u,a0l,a0o,a0r,a0v,a0z,a0D,a0y,a0B,a0C,a0N,a0T,a0X,a1m,e7O,a1B,a1F,a1X,a2A] [] [])))) e1f) (.ite b4k (.ite (.lt a1m a0y) (nD (treeB (.sub a0y a1m)) (nD (treeB (.sub a0l a0k)) (nD (treeB e6c) (jU 0 [a1n,a0k,a0f,a0g,a0p,a0t,a0u,a0l,a0o,a0r,a0v,a0z,a0D,a0y,a0B,a0C,a0N,a0T,a0X,e6c,a1b,a1B,a1F,a1X,a2A] [] [])))) e1Z) .stuck)))))) (.ret ff (.agg e2u) []))
def a4d:Qq:=⟨[(.sh (.agg [jD,jD,jD,jD,jD,jD])),(.sh (.agg [jD,jD,jD,jD,jD,jD])),(.sh (.agg [jD,jD,jD,jD,jD,jD])),(.sh (.agg [jD,jD,jD,jD,jD,jD]))],b5Q,[a8a],nO,nO⟩
def d0B:List Cfg:=[{todo:=[(.code (tfR 5 20)),(.inLoop (tfR 5 20)),(.inBlock 0),(.code [tt,tt])],sl:=jkR 0 4++[(.ptr 0 0),(.ptr 1 0),(.ptr 2 0),(.ptr 3 0),(.ptr 4 0),(.junk 4),(jA 0)]++jkR 5 32++[.undef],H:=[(.cells b2w 51 ff),(.cells c2E 51 ff),(.cells c3s 51 ff),(.cells e2u 51 ff),(.cells a1w 51 ff)],ni:=25,nb:=0,nv:=0,nj:=37}]
def d3K:=okg 92 a4d d0B func92 call92 ff ff [(tfR 5 20)]
def c3k:PT:=(cA 85 [b2Y] [] a0W (.ite (.not c2L) a3z (nD a2c (nD (treeB (.mul a1n a1R)) (nD a1u (nD (treeB (.mul (.mul a1n a1R) a1M)) (nD a8l (nD (treeB e1j) (nD b9Y (nD (treeB (.mul e1j (jP 3))) (nD (treeB (jP 4)) (nD (treeB d6n) (nD b0c (nD (treeB (.mul d6n a7N)) (.ite (.lt (.l 1024) (.mul d6n a7N)) a3z (.ret ff (.int .i64 (.mul d6n a7N)) []))))))))))))))))
def c2C:Qq:=⟨[(.sh (.agg [jD,jD,jD,jD,jD,jD]))],c3k,[],nO,nO⟩
def e0b:=okg 100 c2C [] func100 call100 ff ff
def a9m:PT:=(.app nO (.lit [[(jE 0),(jE 0),(jE 0),(jE 0),(jE 0),(jE 0)]]) 6 e2E)
def a4F:PT:=(nD a1p (.ite b6b (nD a1U (lO ff (.ea 0 a0d 12 6) a2W (.app nO (.lit [[(jA 1),(jA 2),(jA 3),(jA 4),(jA 5),(jA 6)]]) 6 (.app (sm 1) (.va 2) 6 (nD a2c (jU 0 [a1R] [] [a1j,a1d])))))) (nD a3Z (.mkM a0P [a0O] 2 1 8 (jU 1 [a0q] [] a4L)))))
def a4G:PT:=(nD a3Z (.ite (.le a0d a0P) (jU 2 [a0d,a0q] [(.t tt)] a4L) rF))
def a3n:PT:=(nD a1p (.ite b6e (jU 3 [a0d,a0k,a0q] a6Z a4L) (.ite a3E a4C (nD a2c (jU 1 [a1R] [] a4L)))))
def b1s:PT:=(lO ff (.ea 2 a0f 1 0) a0K (cA 103 [b6m,c5T] [] a0W (nD (treeB (.add a4c b9f)) (cA 103 [d0W,d1J] [] a0W (nD (treeB e5Z) (jU 4 [a0d,a0k,a0f,e5Z,a0q] a6Z a4L))))))
def b1n:PT:=(lO ff (.ea 2 a0f 1 0) a0K (nD (treeB (.add b9f a4c)) (cA 103 [d0W,d1J] [] a0W (nD (treeB e7J) (jU 4 [a0d,a0k,a0f,e7J,a0q] a6Z a4L)))))
def b1o:PT:=(cA 103 [d0W,d1J] [] a0W (lO ff (.ea 2 a0f 1 0) a0K (nD (treeB (.add (.a 29) a4c)) (nD (treeB e6k) (jU 4 [a0d,a0k,a0f,e6k,a0q] a6Z a4L)))))
def b1h:PT:=(cA 103 [b6m,c5T] [] a0W (.both b1n b1o))
def a3P:PT:=(nD a3Z (.ite (.lt a0f a0P) (nD (treeI a0f a2Q) (nD a3T (nD a3T (nD a3T (nD c2l (lO tt d5A a2W (lO tt e2h a2W (lO tt d5A a2W (lO tt (.ea 1 a0f 6 0) a2W (.both b1s b1h)))))))))) (nD a1u (jU 2 b6o a6Z a4L))))
def a2B:PT:=(nD a3Z (.ite (.lt a0p a0P) (nD (treeI a0p a0P) (nD a3T (lO tt (.ea 1 a0p 6 0) a2W (lO tt e2h a2W (.ite (.and (.eq a0t a0z) (.and (.eq a0u a0D) (.and (.eq a0l a0y) (.and (.eq a0o a0B) (.and (.eq a0r a0C) (.eq a0v a0N)))))) (nD (treeI a0p a2Q) (lO ff (.ea 2 a0p 1 0) a0K (.ite (.lt a0T a0g) (nD (treeI a0p a2Q) (.storeM (.ea 2 a0p 1 0) [a1E] (nD (treeB (jP 4)) (jU 4 [a0d,a0k,a0f,a0g,(jP 4)] [(.t ff)] a4L)))) e6h))) e6h))))) (nD a8l (jU 3 c5K a6Z a4L))))
def a0M:Qq:=⟨[(.sh (.one .val))],a9m,[a4F,a4G,a3n,a3P,a2B],nO,nO⟩
def c1D:List Cfg:=[{todo:=[(.code (tfR 6 52)),(.inLoop (tfR 6 52)),(.inBlock 0),(.code [tt,tt,tt])],sl:=[(.va 0),.undef,(.junk 0),(.va 1),(jA 0)]++udR 7++jkR 1 16++udR 77,H:=[(.row 1 51 6)],ni:=1,nb:=0,nv:=2,nj:=17},
 {todo:=[(.code (tfR 8 244)),(.inLoop (tfR 8 244)),(.inBlock 2),(.code (tfR 5 31))],sl:=[(.va 0),.undef,(.junk 0),(.va 1),(.junk 1),(.va 2),(jA 0)]++jkR 2 98,H:=[(.row 1 51 6)],ni:=1,nb:=0,nv:=3,nj:=100},
 {todo:=[(.code (tfR 16 62612)),(.inLoop (tfR 16 62612)),(.inBlock 4),(.code (tfR 13 7827)),(.inBlock 3),(.code (tfR 10 979)),(.inLoop (tfR 8 244)),(.inBlock 2),(.code (tfR 5 31))],sl:=[(.va 0),.undef,(.junk 0),(.va 1),(.junk 1),(.va 2),(jA 0),(.bool (.a 0)),(jA 1)]++jkR 2 96,H:=[(.row 1 51 6)],ni:=2,nb:=1,nv:=3,nj:=98},
 {todo:=[(.code (tfR 22 4007204)),(.inLoop (tfR 22 4007204)),(.inBlock 6),(.inBlock 5),(.code (tfR 18 250451)),(.inLoop (tfR 16 62612)),(.inBlock 4),(.code (tfR 13 7827)),(.inBlock 3),(.code (tfR 10 979)),(.inLoop (tfR 8 244)),(.inBlock 2),(.code (tfR 5 31))],sl:=[(.va 0),.undef,(.junk 0),(.va 1),(.junk 1),(.va 2),(jA 0),(.bool (.a 0)),(jA 1),(jA 2)]++jkR 2 95,H:=[(.row 1 51 6)],ni:=3,nb:=1,nv:=3,nj:=97},
 {todo:=[(.code (tfR 29 512922188)),(.inLoop (tfR 29 512922188)),(.inBlock 8),(.inBlock 7),(.code (tfR 24 16028819)),(.inLoop (tfR 22 4007204)),(.inBlock 6),(.inBlock 5),(.code (tfR 18 250451)),(.inLoop (tfR 16 62612)),(.inBlock 4),(.code (tfR 13 7827)),(.inBlock 3),(.code (tfR 10 979)),(.inLoop (tfR 8 244)),(.inBlock 2),(.code (tfR 5 31))],sl:=[(.va 0),.undef,(.junk 0),(.va 1),(.junk 1),(.va 2),(jA 0),(.bool (.a 0)),(jA 1),(jA 2),(jA 3),(jA 4)]++jkR 2 93,H:=[(.row 1 51 6)],ni:=5,nb:=1,nv:=3,nj:=95}]
def c3F:=okg 108 a0M c1D func108 call108 ff ff [(tfR 6 52),(tfR 8 244),(tfR 16 62612),(tfR 22 4007204),(tfR 29 512922188)] [] [] [] [2]
def c1a:PT:=(cA 130 [b2Y,c0x] [] a2n (.ret ff (.bool (.and (.eq a0D a0d) (.and (.eq a0y a0k) (.and (.eq a0B a0f) (.and (.eq a0C a0g) (.and (.eq a0N a0p) (.eq a0T a0t))))))) []))
def c0Z:Qq:=⟨[(.sh (.agg [jD,jD,jD,jD,jD,jD])),(.sh (.agg [jD,jD,jD,jD,jD,jD]))],c1a,[],nO,nO⟩
def d8w:=okg 116 c0Z [] func116 call116 ff ff
def c2r:PT:=e6w
def c3q:Qq:=⟨[(.sh (.one (.int .i32)))],c2r,[],nO,nO⟩
def d9X:=okg 124 c3q [] func124 call124 ff ff
def b8M:PT:=(lO ff (.pa 1 0) a0K (.ite (.eq a0g a0p) (.ret tt (jE 1) []) d1L))
def b8y:Qq:=⟨[(.sh (.agg [.val,jD,jD,jD,jD])),.ptr],b8M,[],nO,nO⟩
def d5h:=okg 132 b8y [] func132 call132 tt tt
def c0B:PT:=(cA 81 [b2Y,(.agg [a4H,a4K,a5Q,a6E,a8Q,b3Y])] [] a0W (cA 81 [b2Y,c0x] [] a0W (nD (treeB (.sub a2A a4D)) (.ret ff (.int .i64 (.sub a2A a4D)) []))))
def c0H:Qq:=⟨[(.sh (.agg [jD,jD,jD,jD,jD,jD,jD,jD,jD,jD,jD,jD])),(.sh (.agg [jD,jD,jD,jD,jD,jD,jD,jD,jD,jD,jD,jD]))],c0B,[],nO,nO⟩
def d7L:=okg 140 c0H [] func140 call140 ff ff
def a3q:PT:=(.ite c5O (cA 38 [b0g,a2L,(.agg c3s)] [] c5y d0F) (.ite (.eq a0v a1n) (cA 39 [b0g] [] c5y (.ite e0D (.ret ff (.tup [e7j,b6g,(jA 29)]) []) d0F)) (.ite (.eq a0v a2Z) (cA 40 [b0g] [] c5y d0F) (.ite (.eq a0v a2I) (cA 41 [b0g,a2L] [] c5y d0F) (cA 42 [b0g,a4J] [] c5y d0F)))))
def b2C:Qq:=⟨[(.sh (.agg [.val,.val,.val,.val,jD,jD,jD,jD,.val,jD,jD,jD,jD,jD,jD,.val,.val,.val,.bool])),(.sh (.agg [jD,jD,jD,jD,jD,jD,jD,jD,jD]))],a3q,[],nO,nO⟩
def c9H:=okg 13 b2C [] func13 call13 ff ff
def b0L:PT:=(cA 18 [a3h] [] a0W (.ite c0i d5Y (.ite b6x a6h (nD a3Z (.ite (.le a0P a0d) a6h (cA 47 [b2L] [] a1A (.ite a4h a1e (cA 48 [a3h] [] [(.agg a2W),(.agg a2W)] (cA 49 a0J [] a2n (jU 0 [a0d,a0q,a0k,a0f,a0g,a0p,a0t,a0u,a0o,a0r,a0v,a0z,a0D,a0y,a0B,a0C,a0N,a0T,a0X,a1m,a1b,a1B,a1F,a1X,a2A,a4D] [] a0E))))))))))
def a5C:PT:=(.ite d0a (.ite d1F (.ite (.lt a4D a0l) a7G (.ite (.not (.eq a1m a0q)) (nD a2R (lO tt b0Y a0K (.ite (.not (.eq a1m a8h)) (.ite (.lt a0y a0l) a7G e2y) e2y))) e2y)) (.ite d0i (.ite (.lt a2A a0u) a7G (.ite e1O (nD a2R (lO tt b0Y a0K (.ite (.not (.eq a0X a8h)) (.ite (.lt a0D a0u) a7G e1E) e1E))) e1E)) (.ite d0c (.ite (.lt a1X a0t) a7G (.ite (.not d1Q) (nD a2R (lO tt b0Y a0K (.ite (.not (.eq a0T a8h)) (.ite (.lt a0z a0t) a7G e2s) e2s))) e2s)) (.ite d1O (.ite (.lt a1F a0p) a7G (.ite d6u (nD a2R (lO tt b0Y a0K (.ite (.not (.eq a0N a8h)) (.ite (.lt a0v a0p) a7G e1c) e1c))) e1c)) (.ite c5z (.ite (.lt a1B a0g) a7G (.ite (.not (.eq a0C a0q)) (nD a2R (lO tt b0Y a0K (.ite (.not (.eq a0C a8h)) (.ite (.lt a0r a0g) a7G e2k) e2k))) e2k)) (.ite b4j (.ite (.lt a1b a0f) a7G (.ite c2h (nD a2R (lO tt b0Y a0K (.ite (.not (.eq a0B a8h)) (.ite (.lt a0o a0f) a7G e0j) e0j))) e0j)) .stuck)))))) (jU 1 e0w [] a0E))
def a5w:PT:=(nD a7E (.ite (.lt a0k a2Q) (nD c7m (lO ff (.ea 2 a0k 3 0) b3V (cA 50 [a1j,a2f,c2G] [] [a7e,a7e,a7e] (.ite (.eq a0o c3N) e6P (.ite (.eq a0o a0d) e6P (nD a1u (jU 1 d1x [] a0E))))))) a3z))
def a1T:Qq:=⟨[(.sh (.agg [.val,.val,.val,.val])),(.sh (.one jD)),(.sh (.agg [jD,jD,jD,jD,jD,jD]))],b0L,[a5C,a5w],nO,nO⟩
def c4a:List Cfg:=[{todo:=[(.code (tfR 11 2036)),(.inLoop (tfR 11 2036)),(.inBlock 0),(.code (tfR 8 255))],sl:=[(.junk 0),(jA 0),(.junk 1),(.ptr 0 0),.undef,(.ptr 1 0),(.junk 2),(.junk 3),(.ptr 2 0),(.ptr 3 0),(.ptr 4 0),(jA 1)]++udR 5++jkR 4 4++[.undef]++jkR 8 58++udR 37,H:=[(.cells a0E 27 ff),(.cells b0a 51 ff),(.cells b9U 51 ff),(.cells c5Z 51 ff),(.cells d0X 51 ff)],ni:=26,nb:=0,nv:=4,nj:=66},
 {todo:=[(.code (tfR 12 4084)),(.inLoop (tfR 12 4084)),(.inBlock 2),(.code (tfR 9 511))],sl:=[(.junk 0),(jA 0),(.junk 1),(.ptr 0 0),.undef,(.ptr 1 0)]++jkR 2 6++[(jA 1)]++jkR 8 8++[.undef]++jkR 16 95,H:=[(.cells a0E 27 ff),(.cells b0a 51 ff)],ni:=8,nb:=0,nv:=4,nj:=111}]
def c6Z:=okg 21 a1T c4a func21 call21 ff ff [(tfR 11 2036),(tfR 12 4084)]
def b5s:PT:=e7F
def b5u:Qq:=⟨[(.sh (.agg [jD,jD,jD,jD]))],b5s,[],nO,nO⟩
def d4j:=okg 29 b5u [] func29 call29 ff ff
def a8F:PT:=(nD b4c (.ite a9Y c5L (cA 53 c1x [] a1A (.ite a4h c5L (nD a1k (lO ff b2P a0R (nD a2R (lO ff (.ea 1 a0d 1 0) b0j (.ite a5W d6B (nD a1k (nD a1k (nD a1k (lO ff b2P a0R (lO ff a7F a0R (lO ff c3c a0R (nD (treeI a0d a2Q) (.storeM (.ea 2 a0d 1 0) [b1e] (nD (treeI a0d a3W) (.storeM (.ea 3 a0d 6 0) a1w (nD (treeI a0d a3b) (.storeM (.ea 4 a0d 1 0) a1h d1L)))))))))))))))))))))
def b1q:Qq:=⟨[(.sh (.one .val)),(.sh (.one jD))],a8F,[],nO,nO⟩
def d4e:=okg 37 b1q [] func37 call37 tt tt
def b0w:PT:=(nD a1p (jU 0 [a2H,a0q] [] [a0Q,.nilS,a1j]))
def a3D:PT:=(.ite a8b (nD c7m (lO ff (.ea 2 a0k 9 0) e1F (.callv 0 [(.agg [a1N,a1E,a2Y,a2u,a2h,a2k,a1d,a1i,a1S])] [(.agg e1F)] (.app nO (.lit [[(jA 8),(jA 9),(jA 10),(jA 11),(jA 12),(jA 13),(.va 6),(.va 7),(.va 8)]]) 9 (.appM a0Q (.va 9) 9 65 (nD a1u (jU 0 b6o [] [a1j,a7s,a1f]))))))) d6x)
def a3J:Qq:=⟨[(.sh (.one .val)),(.sh (.one .val))],b0w,[a3D],nO,nO⟩
def c3R:List Cfg:=[{todo:=[(.code (tfR 6 52)),(.inLoop (tfR 6 52)),(.inBlock 0),(.code [tt,tt,tt])],sl:=[(.junk 0),(.va 0),.undef,.undef,(.junk 1),(.va 1),.undef,(.junk 2),(.va 2),(jA 0),(jA 1)]++jkR 3 10++[.undef],H:=[],ni:=2,nb:=0,nv:=3,nj:=13}]
def c4V:=okg 45 a3J c3R func45 call45 tt tt [(tfR 6 52)] [] [(15,[65])] (live:=tt)
def b8G:PT:=(.ite d1q (nD a1k (lO ff b2P a0R e0o)) rF)
def b8A:Qq:=⟨[(.sh (.one .val)),(.sh (.one jD))],b8G,[],nO,nO⟩
def d5k:=okg 53 b8A [] func53 call53 ff ff
def b3k:PT:=(cA 95 d0g [] a3x (jU 0 [a0v,a0z,a0D,a0y,a0B,a0C,a0q,a0d,a0k,a0f,a0g,a0p,a0t,a0u,a0l,a0o,a0r,a0p,a0t,a0u,a0l,a0o,a0r] [] a0J))
def b2n:PT:=(cA 29 d0g [] a0W (.ite d6u (.ret ff (.tup [d0A,a7K]) []) (.both b3k b3k)))
def a8M:PT:=(.ite (.lt a0u a4P) (.ite (.eq a0u a3w) (.ite (.lt a0q a0t) (cA 96 c2I [] a1A (.ite a3E (.callv 0 [a7K] a0W (jU 0 [a0d,a0k,a0f,a0g,a0p,a0t,a4P,a0l,a0o,a0r,a0v,a0z,a0D,a0y,a0B,a0C,a0N,a0T,a0X,a1m,a1b,a1B,a1X] [] a0J)) e7u)) e7u) (.ite (.eq a0u a2C) (.ite (.lt a0q a0p) (cA 96 c2I [] a1A (.ite a3E (.callv 0 [a6i] a0W (jU 0 [a0d,a0k,a0f,a0g,a0p,a0t,a3w,a0l,a0o,a0r,a0v,a0z,a0D,a0y,a0B,a0C,a0N,a0T,a0X,a1m,a1b,a1X,a1F] [] a0J)) e6p)) e6p) (.ite (.eq a0u a2I) (.ite (.lt a0q a0g) (cA 96 c2I [] a1A (.ite a3E (.callv 0 [a5S] a0W (jU 0 [a0d,a0k,a0f,a0g,a0p,a0t,a2C,a0l,a0o,a0r,a0v,a0z,a0D,a0y,a0B,a0C,a0N,a0T,a0X,a1m,a1X,a1B,a1F] [] a0J)) e7s)) e7s) (.ite (.eq a0u a2Z) (.ite (.lt a0q a0f) (cA 96 c2I [] a1A (.ite a3E (.callv 0 [a5t] a0W (jU 0 [a0d,a0k,a0f,a0g,a0p,a0t,a2I,a0l,a0o,a0r,a0v,a0z,a0D,a0y,a0B,a0C,a0N,a0T,a0X,a1X,a1b,a1B,a1F] [] a0J)) e7Y)) e7Y) (.ite (.eq a0u a1n) (.ite (.lt a0q a0k) (cA 96 c2I [] a1A (.ite a3E (.callv 0 [a4J] a0W (jU 0 [a0d,a0k,a0f,a0g,a0p,a0t,a2Z,a0l,a0o,a0r,a0v,a0z,a0D,a0y,a0B,a0C,a0N,a0T,a1X,a1m,a1b,a1B,a1F] [] a0J)) e7a)) e7a) (.ite c2L (.ite (.lt a0q a0d) (cA 96 c2I [] a1A (.ite a3E (.callv 0 [a2L] a0W (jU 0 [a0d,a0k,a0f,a0g,a0p,a0t,a1n,a0l,a0o,a0r,a0v,a0z,a0D,a0y,a0B,a0C,a0N,a1X,a0X,a1m,a1b,a1B,a1F] [] a0J)) e8b)) e8b) .stuck)))))) (cA 96 c2I [] a1A (.ite a4h d1o (.ite (.not (.and (.eq a0T a0z) (.and (.eq a0X a0D) (.and (.eq a1m a0y) (.and (.eq a1b a0B) (.and (.eq a1B a0C) (.eq a1F a0N))))))) (cA 96 [e8q] [] a1A (.ite d1n d1o e6C)) e6C))))
def a4k:Qq:=⟨[(.sh (.agg [jD,jD,jD,jD])),(.sh (.agg [jD,jD,jD,jD,jD,jD])),(.sh (.agg [jD,jD,jD,jD,jD,jD]))],b2n,[a8M],nO,nO⟩
def d2R:List Cfg:=[{todo:=[(.code (tfR 7 116)),(.inLoop (tfR 7 116)),(.inBlock 0),(.code [tt,tt,tt,tt])],sl:=jkR 0 4++[(.ptr 1 0),(.junk 4),(.ptr 3 0),(.junk 5),(.junk 6),(.va 0),(.ptr 4 0)]++jkR 7 6++[.undef,.undef,(.junk 13),(.junk 14),(.junk 15),(.agg [(jA 0),(jA 1),(jA 2),(jA 3),(jA 4),(jA 5)]),(jA 6)]++jkR 16 17++udR 15,H:=[(.cells [a2k,a2s,a2f,a2r] 29 ff),(.cells c0k 38 ff),(.cells e1K 51 ff),(.cells a1w 38 ff),(.cells [a8U,a4H,a4K,a5Q,a6E,a8Q] 38 ff)],ni:=23,nb:=0,nv:=1,nj:=33}]
def d5f:=okg 61 a4k d2R func61 call61 ff ff [(tfR 7 116)] [] [(34,[2])]
def a2V:PT:=e7V
def b1t:Qq:=⟨[(.sh (.one .val))],a2V,[],nO,nO⟩
def b8N:List Cfg:=[]
def b1U:PT :=
 (nD (.is 3 0)
 (.ite (.sis 0 [])
 rF
 (nD (.is 3 0)
 (.ite (.lt (.l 12) (.stl 0))
  rF
  (nD (.is 3 0)
  (nD (.lt (.l 0) (.stl 0))
  (cA 113 [(.int .u8 (.sat 0 (.l 0)))] [] [(.one .bool)]
  (.ite (.not (.a 0))
  rF
  (cA 114 [(.va 0)] [] [(.agg [jD,.val,jD,jD]),(.one jD)]
  (.ite (.eq (.a 3) (.l 0))
   (nD (.is 3 1)
   (nD (.is 3 0)
   (.ret ff (.bool (.seq 1 0)) [])))
   rF))))))))))
def b1y:Qq:=⟨[(.sh (.one .val))],b1U,[],nO,nO⟩
def c7t:=okg 77 b1y [] func77 call77 ff ff
def c1P:PT:=e7E
def c1S:Qq:=⟨[(.sh (.agg [jD,jD,jD,jD,jD,jD]))],c1P,[],nO,nO⟩
def d9r:=okg 85 c1S [] func85 call85 ff ff
def c7b:PT:=(jU 0 [a0q,a0d,a0k,a0f,a0g,a0p,a0t,a0u,a0l,a0o,a0r,a0v,a0z,a0q,a0q,a0q,a0q,a0q,a0q] [] [])
def b3Q:PT:=(.ite d6F (.ite d1E (.ite (.lt a0D a0u) (nD (treeB (.sub a0u a0D)) (jU 0 [a4P,a0k,a0f,a0g,a0p,a0t,a0u,a0l,a0o,a0r,a0v,a0z,a0D,a0y,a0B,a0C,a0N,a0T,(.sub a0u a0D)] [] [])) (jU 0 [a4P,a0k,a0f,a0g,a0p,a0t,a0u,a0l,a0o,a0r,a0v,a0z,a0D,a0y,a0B,a0C,a0N,a0T,a0X] [] [])) (.ite d0n (.ite (.lt a0z a0t) (nD (treeB (.sub a0t a0z)) (jU 0 [a3w,a0k,a0f,a0g,a0p,a0t,a0u,a0l,a0o,a0r,a0v,a0z,a0D,a0y,a0B,a0C,a0N,(.sub a0t a0z),a0X] [] [])) (jU 0 [a3w,a0k,a0f,a0g,a0p,a0t,a0u,a0l,a0o,a0r,a0v,a0z,a0D,a0y,a0B,a0C,a0N,a0T,a0X] [] [])) (.ite b6n (.ite (.lt a0v a0p) (nD (treeB (.sub a0p a0v)) (jU 0 [a2C,a0k,a0f,a0g,a0p,a0t,a0u,a0l,a0o,a0r,a0v,a0z,a0D,a0y,a0B,a0C,(.sub a0p a0v),a0T,a0X] [] [])) (jU 0 [a2C,a0k,a0f,a0g,a0p,a0t,a0u,a0l,a0o,a0r,a0v,a0z,a0D,a0y,a0B,a0C,a0N,a0T,a0X] [] [])) (.ite b4g (.ite (.lt a0r a0g) (nD (treeB (.sub a0g a0r)) (jU 0 [a2I,a0k,a0f,a0g,a0p,a0t,a0u,a0l,a0o,a0r,a0v,a0z,a0D,a0y,a0B,(.sub a0g a0r),a0N,a0T,a0X] [] [])) (jU 0 [a2I,a0k,a0f,a0g,a0p,a0t,a0u,a0l,a0o,a0r,a0v,a0z,a0D,a0y,a0B,a0C,a0N,a0T,a0X] [] [])) (.ite b3X (.ite (.lt a0o a0f) (nD (treeB (.sub a0f a0o)) (jU 0 [a2Z,a0k,a0f,a0g,a0p,a0t,a0u,a0l,a0o,a0r,a0v,a0z,a0D,a0y,(.sub a0f a0o),a0C,a0N,a0T,a0X] [] [])) (jU 0 [a2Z,a0k,a0f,a0g,a0p,a0t,a0u,a0l,a0o,a0r,a0v,a0z,a0D,a0y,a0B,a0C,a0N,a0T,a0X] [] [])) (.ite b4k (.ite (.lt a0l a0k) (nD (treeB (.sub a0k a0l)) (jU 0 [a1n,a0k,a0f,a0g,a0p,a0t,a0u,a0l,a0o,a0r,a0v,a0z,a0D,(.sub a0k a0l),a0B,a0C,a0N,a0T,a0X] [] [])) (jU 0 [a1n,a0k,a0f,a0g,a0p,a0t,a0u,a0l,a0o,a0r,a0v,a0z,a0D,a0y,a0B,a0C,a0N,a0T,a0X] [] [])) .stuck)))))) (.ret ff (.agg c3s) []))
def a6X:Qq:=⟨[(.sh (.agg [jD,jD,jD,jD,jD,jD])),(.sh (.agg [jD,jD,jD,jD,jD,jD]))],c7b,[b3Q],nO,nO⟩
def d9h:List Cfg:=[{todo:=[(.code (tfR 6 52)),(.inLoop (tfR 6 52)),(.inBlock 0),(.code [tt,tt,tt])],sl:=[(.junk 0),(.junk 1),(.ptr 0 0),(.ptr 1 0),(.ptr 2 0),(.ptr 3 0),(.junk 2),(jA 0)]++jkR 3 19++[.undef],H:=[(.cells b2w 138 ff),(.cells c2E 138 ff),(.cells a1w 51 ff),(.cells c3s 51 ff)],ni:=19,nb:=0,nv:=0,nj:=22}]
def e3n:=okg 93 a6X d9h func93 call93 ff ff [(tfR 6 52)]
def c4m:PT:=e8h
def a8t:PT:=(.ite a8b (nD c7d (lO ff (.ea 1 a0k 4 0) [.val,jD,jD,jD] e5Q)) e2z)
def a9n:Qq:=⟨[(.sh (.one .val)),(.sh (.one .val))],c4m,[a8t],nO,nO⟩
def d7X:List Cfg:=[{todo:=[(.code (tfR 5 20)),(.inLoop (tfR 5 20)),(.inBlock 0),(.code [tt,tt])],sl:=[(.junk 0),(.va 0),.undef,.undef]++jkR 1 4++[(.va 1),(jA 0),(jA 1)]++jkR 5 8++[.undef,(.junk 13)],H:=[],ni:=2,nb:=0,nv:=2,nj:=14}]
def e1X:=okg 101 a9n d7X func101 call101 ff ff [(tfR 5 20)]
def b0N:PT:=(cA 127 a0J [] a2n (jU 0 [a0u,a0q,a0d,a0k,a0f,a0g,a0p,a0t,a0l,a0o,a0r,a0v,a0z,a0D,a0y,a0B,a0C,a0N,a0T,a0X] [] a0J))
def a5E:PT:=(.ite d0a (nD a1U (.ite d1F (lO ff d5z a0K (nD (treeB (.sub a1b a0y)) (.ite (.lt a0q (.sub a1b a0y)) (nD (treeB (.sub a1m (.sub a1b a0y))) (.ite (.lt (.sub a1m (.sub a1b a0y)) a0l) a4C e7X)) e7X))) (.ite d0i (lO ff d5X a0K (nD (treeB (.sub a1b a0D)) (.ite (.lt a0q (.sub a1b a0D)) (nD (treeB (.sub a0X (.sub a1b a0D))) (.ite (.lt (.sub a0X (.sub a1b a0D)) a0u) a4C e6l)) e6l))) (.ite d0c (lO ff d5H a0K (nD (treeB (.sub a1b a0z)) (.ite (.lt a0q (.sub a1b a0z)) (nD (treeB (.sub a0T (.sub a1b a0z))) (.ite (.lt (.sub a0T (.sub a1b a0z)) a0t) a4C e6f)) e6f))) (.ite d1O (lO ff d6H a0K (nD (treeB (.sub a1b a0v)) (.ite (.lt a0q (.sub a1b a0v)) (nD (treeB (.sub a0N (.sub a1b a0v))) (.ite (.lt (.sub a0N (.sub a1b a0v)) a0p) a4C e6I)) e6I))) (.ite c5z (lO ff d5M a0K (nD (treeB (.sub a1b a0r)) (.ite (.lt a0q (.sub a1b a0r)) (nD (treeB (.sub a0C (.sub a1b a0r))) (.ite (.lt (.sub a0C (.sub a1b a0r)) a0g) a4C e7m)) e7m))) (.ite b4j (lO ff d1D a0K (nD (treeB (.sub a1b a0o)) (.ite (.lt a0q (.sub a1b a0o)) (nD (treeB (.sub a0B (.sub a1b a0o))) (.ite (.lt (.sub a0B (.sub a1b a0o)) a0f) a4C e7W)) e7W))) .stuck))))))) rF)
def a3c:Qq:=⟨[(.sh (.agg [jD,jD,jD,jD,jD,jD])),(.sh (.one .val)),(.sh (.one jD)),(.sh (.agg [jD,jD,jD,jD,jD,jD]))],b0N,[a5E],nO,nO⟩
def c4w:List Cfg:=[{todo:=[(.code (tfR 6 52)),(.inLoop (tfR 6 52)),(.inBlock 0),(.code [tt,tt,tt])],sl:=[(.junk 0),(.va 0),(jA 0),(.junk 1),(.ptr 0 0),.undef,.undef,(.ptr 1 0),(.junk 2),(.ptr 2 0),(jA 1)]++jkR 3 30,H:=[(.cells b0a 51 ff),(.cells b9U 51 ff),(.cells c5Z 51 ff)],ni:=20,nb:=0,nv:=1,nj:=33}]
def c7k:=okg 109 a3c c4w func109 call109 tt ff [(tfR 6 52)]
def c1r:PT:=(jU 0 [a0u,a0q,a0d,a0k,a0f,a0g,a0p,a0t,a0l,a0o,a0r,a0v,a0z,a0D] [] a0E)
def b0p:PT:=(.ite d0a (.ite d1F (.ite d6s e7S (nD a2R (lO tt b0Y a0K (.ite (.eq a0l a0B) e7S (jU 0 [a0d,a4P,a0f,a0g,a0p,a0t,a0u,a0l,a0o,a0r,a0v,a0z,a0D,a0y] [] a0E))))) (.ite d0i (.ite c2L e6Y (nD a2R (lO tt b0Y a0K (.ite (.eq a0u a0B) e6Y (jU 0 [a0d,a3w,a0f,a0g,a0p,a0t,a0u,a0l,a0o,a0r,a0v,a0z,a0D,a0y] [] a0E))))) (.ite d0c (.ite (.eq a0t a0q) e8B (nD a2R (lO tt b0Y a0K (.ite (.eq a0t a0B) e8B (jU 0 [a0d,a2C,a0f,a0g,a0p,a0t,a0u,a0l,a0o,a0r,a0v,a0z,a0D,a0y] [] a0E))))) (.ite d1O (.ite c0c e8z (nD a2R (lO tt b0Y a0K (.ite (.eq a0p a0B) e8z (jU 0 [a0d,a2I,a0f,a0g,a0p,a0t,a0u,a0l,a0o,a0r,a0v,a0z,a0D,a0y] [] a0E))))) (.ite c5z (.ite (.eq a0g a0q) e7Z (nD a2R (lO tt b0Y a0K (.ite (.eq a0g a0B) e7Z (jU 0 [a0d,a2Z,a0f,a0g,a0p,a0t,a0u,a0l,a0o,a0r,a0v,a0z,a0D,a0y] [] a0E))))) (.ite b4j (.ite d1H e5N (nD a2R (lO tt b0Y a0K (.ite (.eq a0f a0B) e5N (jU 0 [a0d,a1n,a0f,a0g,a0p,a0t,a0u,a0l,a0o,a0r,a0v,a0z,a0D,a0y] [] a0E))))) .stuck)))))) (.ret ff b2s []))
def a5n:Qq:=⟨[(.sh (.agg [.val,.val,.val,.val])),(.sh (.agg [jD,jD,jD,jD,jD,jD])),(.sh (.one jD)),(.sh (.agg [jD,jD,jD,jD,jD,jD]))],c1r,[b0p],nO,nO⟩
def d4V:List Cfg:=[{todo:=[(.code (tfR 5 20)),(.inLoop (tfR 5 20)),(.inBlock 0),(.code [tt,tt])],sl:=[(.junk 0),(.junk 1),(jA 0),(.junk 2),(.ptr 0 0),(.ptr 1 0),.undef,(.ptr 2 0),(.ptr 3 0),(.junk 3),(jA 1)]++jkR 4 21++[.undef],H:=[(.cells a0E 27 ff),(.cells b0a 51 ff),(.cells b9U 51 ff),(.cells a1w 51 ff)],ni:=14,nb:=0,nv:=4,nj:=25}]
def d8h:=okg 117 a5n d4V func117 call117 ff ff [(tfR 5 20)]
def c9v:PT:=(jU 0 [a0d,a0d] [] a5J)
def b2x:PT:=(nD b1c (.ite (.lt a0k c2x) (nD b1c (nD (treeI a0k c2x) (nD (.and (.le (.l (-2147483648)) (.sat 0 a0k)) (.le (.sat 0 a0k) (.l 2147483647))) (.callv 1 [(.int .i32 (.sat 0 a0k))] a1A (.ite a3E d5Z e7r))))) e7r))
def b4d:Qq:=⟨[(.sh (.one .val)),(.sh (.one jD)),(.sh (.one .val))],c9v,[b2x],nO,nO⟩
def e1e:List Cfg:=[{todo:=[(.code (tfR 5 24)),(.inLoop (tfR 5 24)),(.inBlock 0),(.code [tt,tt,tt])],sl:=[(.va 0),(jA 0),(.va 1),.undef,.undef,.undef,(.junk 0),(jA 1)]++jkR 1 15++udR 4,H:=[],ni:=2,nb:=0,nv:=2,nj:=16}]
def e4E:=okg 125 b4d e1e func125 call125 ff ff [(tfR 5 24)] [] [(14,[4])]
def b9E:PT:=(cA 131 [(.agg [a1j,a1L,a1P,a1N,a1E,a2Y,a2u]),(.fn 138 0 [])] [] a0W (.ret ff a2h []))
def b9v:Qq:=⟨[(.sh (.one .val)),(.sh (.agg [jD,jD,jD,jD,jD,jD]))],b9E,[],nO,nO⟩
def d7i:=okg 133 b9v [] func133 call133 ff ff [] [] [(10,[2])]
def b9I:PT :=
 (.mkMap .i64
 (jU 0 [(.a 0)] [] [(.va 0),(.va 1)]))
def a9w:PT :=
 (.mapGet 1 .i64 (.a 0) (.bool (.t ff)) ff [(.one .bool)]
 (.ite (.not (.a 0))
 (.mapSet 1 .i64 (.a 0) (.bool (.t tt))
 (nD (treeI (.a 0) (.slen 0))
 (lO ff (.ea 0 (.a 0) 1 0) [jD]
 (jU 0 [(.a 1)] [] [(.va 0),(.va 1)]))))
 (.mapClr 1
 (jU 1 [(.a 0)] [] [(.va 0),(.va 1),.nilS]))))
def a7H:PT :=
 (.mapGet 1 .i64 (.a 0) (.bool (.t ff)) ff [(.one .bool)]
 (.ite (.not (.a 0))
 (.mapSet 1 .i64 (.a 0) (.bool (.t tt))
 (.app nO (.lit [[(jA 0)]]) 1
 (.appM (.va 2) (.va 3) 1 3
 (nD (treeI (.a 0) (.slen 0))
 (lO ff (.ea 0 (.a 0) 1 0) [jD]
 (jU 1 [(.a 1)] [] [(.va 0),(.va 1),(.va 4)]))))))
 (nD (.is 0 2)
 (.mkM (.slen 2) [(jE 0)] 3 1 8
 (nD (.is 0 2)
 (jU 2 [(.slen 2),(.l 0)] [] [(.va 2),(.va 3)]))))))
def a9t:PT:=(.ite a8b (nD a3T (lO ff (.ea 0 a0k 1 0) a0K (nD a1p (nD (treeB c2t) (nD (treeB (.sub c2t a0k)) (nD (treeI (.sub c2t a0k) a0P) (.storeM (.ea 1 (.sub c2t a0k) 1 0) [a1N] (nD a1u (jU 2 b6o [] a5J))))))))) (.ret ff a0Q []))
def a1l:Qq:=⟨[(.sh (.one .val)),(.sh (.one jD))],b9I,[a9w,a7H,a9t],nO,nO⟩
def d4a:List Cfg:=[{todo:=[(.code (tfR 5 24)),(.inLoop (tfR 5 24)),(.inBlock 0),(.code [tt,tt,tt])],sl:=[(.va 0),(jA 0),.undef,.undef,(.junk 0),(.va 1)]++udR 4++jkR 1 11++udR 35,H:=[],ni:=1,nb:=0,nv:=2,nj:=12},
 {todo:=[(.code (tfR 8 248)),(.inLoop (tfR 8 248)),(.inBlock 2),(.code (tfR 6 63))],sl:=[(.va 0),(jA 0),.undef,.undef,(.junk 0),(.va 1),(.va 2),.undef,.undef,.undef]++jkR 1 26++udR 20,H:=[],ni:=1,nb:=0,nv:=3,nj:=27},
 {todo:=[(.code (tfR 11 2036)),(.inLoop (tfR 11 2036)),(.inBlock 4),(.code (tfR 8 255))],sl:=[(.junk 0),(.junk 1),.undef,.undef,(.junk 2),(.junk 3),(.va 0),(.va 1)]++jkR 4 31++[(.va 0),(jA 0),(jA 1)]++jkR 35 13++[.undef],H:=[],ni:=2,nb:=0,nv:=2,nj:=48}]
def d6X:=okg 141 a1l d4a func141 call141 tt ff [(tfR 5 24),(tfR 8 248),(tfR 11 2036)] (live:=tt)
def b3u:PT:=(nD b4c (.ite a9Y e1A (nD a1k (lO ff b3U a2W d6z))))
def b3D:Qq:=⟨[(.sh (.one .val))],b3u,[],nO,nO⟩
def d0Q:=okg 14 b3D [] func14 call14 tt ff
def c4c:PT:=(cA 67 a0J [] a3x (cA 68 [a0Q] [] a3x (cA 69 [a1f] [] a3x (cA 70 [a1d] [] a3x (.ret ff (.agg [a1i,a1S,a1G,a2J]) [])))))
def c4t:Qq:=⟨[(.sh (.agg [.val,.val,.val,.val]))],c4c,[],nO,nO⟩
def e2d:=okg 30 c4t [] func30 call30 ff ff
def a2a:PT:=(.ite a3E d1z (.ite (.lt a0v a0q) d6q (nD b0f (.ite (.le a6K a0v) d6q (nD (treeI a0v a6K) (lO ff (.ea 7 a0v 1 0) b0j (.ite a5W d1z (cA 21 [a3h,a2r,(.agg c0k)] [] a0W (.ite d1Q (cA 71 [a3h,a2r,e0N] [] a0W (.ite (.eq a0X a0q) (cA 35 [b0g,a2r] [] a3x (cA 72 [a3h,a1E,a2r,a3U,e0N] [] a0W (.ite (.not (.eq a1m a0q)) (.ret ff (.tup [b0g,a4K]) []) e7e))) (.ite e1O e8A e5W))) (.ite d1Q (cA 35 [b0g,a2r] [] a3x (cA 72 [a3h,a1E,a2r,a3U,e0N] [] a0W (.ite e1O e8A e7e))) (.ite (.not d1Q) (.ret ff (.tup [b0g,a8U]) []) e5W)))))))))))
def a9z:Qq:=⟨[(.sh (.agg [.val,.val,.val,.val,jD,jD,jD,jD,.val,jD,jD,jD,jD,jD,jD,.val,.val,.val,.bool])),(.sh (.one jD)),(.sh (.agg [jD,jD,jD,jD,jD,jD]))],a2a,[],nO,nO⟩
def c4i:=okg 38 a9z [] func38 call38 tt ff [] [] [] [] [99999] (live:=tt)
def b0H:PT:=e1g
def b7v:PT:=(cA 51 a0J [] a3x (.both b0H b0H))
def b0J:PT:=e1g
def b8i:PT:=(cA 51 a0J [] a3x (.both b0J b0J))
def a7X:PT:=(cA 51 a0J [] a3x e1g)
def b8s:PT:=(.both b8i a7X)
def b7q:PT:=(.both a7X a7X)
def b7S:PT:=(.both b8s b7q)
def a9T:PT:=(.both b7v b7S)
def b3l:Qq:=⟨[(.sh (.agg [jD,jD,jD,jD,jD,jD,.val,.val,.val]))],a9T,[],nO,nO⟩
def d1i:=okg 46 b3l [] func46 call46 tt tt
def c0E:PT:=(cA 28 [a3h] [] a0W (.ite c0i d5Y (cA 79 [a3h,a1L,b2L] [] a0W (.ret ff a2s []))))
def c0U:Qq:=⟨[(.sh (.agg [.val,.val,.val,.val])),(.sh (.one jD)),(.sh (.agg [jD,jD,jD,jD,jD,jD]))],c0E,[],nO,nO⟩
def d7Q:=okg 54 c0U [] func54 call54 ff ff
def a9f:PT:=(nD a1p (.mkM a2H [a0O,a0O,a0O,a0O,a0O,a0O,.nilS,.nilS,.nilS] 65 9 120 (.copyM 1 0 9 d6x)))
def a9k:Qq:=⟨[(.sh (.one .val))],a9f,[],nO,nO⟩
def c3P:=okg 62 a9k [] func62 call62 tt tt
def a2y:PT:=e7V
def a9r:Qq:=⟨[(.sh (.one .val))],a2y,[],nO,nO⟩
def b5e:List Cfg:=[]
def b3n:PT:=e2E
def a4t:PT:=(nD a1p (.ite b6b (nD a1U (lO ff (.ea 0 a0d 4 0) a0R (nD (.is 3 2) (nD (.is 3 1) (.ite (.seq 2 1) (.ret ff (.tup [a1L,b1e]) []) d6d))))) e2z))
def a4N:Qq:=⟨[(.sh (.one .val)),(.sh (.one .val))],b3n,[a4t],nO,nO⟩
def c7L:List Cfg:=[{todo:=[(.code (tfR 5 20)),(.inLoop (tfR 5 20)),(.inBlock 0),(.code [tt,tt])],sl:=[(.va 0),(.va 1),.undef,.undef,(.junk 0),(.junk 1),(jA 0)]++jkR 2 13++[.undef],H:=[],ni:=1,nb:=0,nv:=2,nj:=15}]
def d1w:=okg 78 a4N c7L func78 call78 ff ff [(tfR 5 20)]
def b8I:PT:=e6o
def b8B:Qq:=⟨[(.sh (.one .val))],b8I,[],nO,nO⟩
def d4C:=okg 86 b8B [] func86 call86 ff ff
def c4s:PT:=e6v
def b3a:PT:=(.ite a8b (nD a3T (lO ff c2f a2W (nD (treeB (.add a0f a0o)) (nD (treeB (.add a0g a0r)) (nD (treeB (.add a0p a0v)) (nD (treeB (.add a0t a0z)) (nD (treeB (.add a0u a0D)) (nD (treeB (.add a0l a0y)) (nD a1u (jU 0 [a0d,a1M,(.add a0f a0o),(.add a0g a0r),(.add a0p a0v),(.add a0t a0z),(.add a0u a0D),(.add a0l a0y)] [] a0J)))))))))) e0l)
def b0W:Qq:=⟨[(.sh (.one .val))],c4s,[b3a],nO,nO⟩
def d8A:List Cfg:=[{todo:=[(.code (tfR 6 52)),(.inLoop (tfR 6 52)),(.inBlock 0),(.code [tt,tt,tt])],sl:=[(.junk 0),.undef,(.ptr 0 0),(.ptr 1 0),.undef,(.junk 1),(.junk 2),(.va 0),(jA 0),(jA 1)]++jkR 3 16++[.undef],H:=[(.cells a1w 138 ff),(.cells b0a 138 ff)],ni:=8,nb:=0,nv:=1,nj:=19}]
def e0C:=okg 94 b0W d8A func94 call94 tt ff [(tfR 6 52)]
def b1R:PT:=(.ite d1q e0o rF)
def b1G:Qq:=⟨[(.sh (.agg [.val,.val,.val,.val])),(.sh (.one jD))],b1R,[],nO,nO⟩
def c7q:=okg 102 b1G [] func102 call102 ff ff
def b2f:PT:=(cA 127 a0J [] a2n (jU 0 [a0u,a0q,a0d,a0k,a0f,a0g,a0p,a0t,a0l,a0o,a0r,a0v,a0z,a0D,a0y,a0B,a0C,a0N,a0T,a0X,a0l,a0o,a0r,a0v,a0z,a0D] [] a0J))
def a5V:PT:=(.ite d0a (jU 1 [a0d,a0k,a0f,a0g,a0p,a0t,a0u,a0l,a0o,a0r,a0v,a0z,a0D,a0y,a0B,a0C,a0N,a0T,a0X,a1m,a1b,a1B,a1F,a1X,a2A,a4D] [] a0J) (.ret ff (.agg d0X) []))
def b0Q:PT:=(nD a1U (.ite d1F (lO ff d5z a0K (.ite (.lt a4D a8h) (nD a1U (lO ff d5z a0K (nD (treeB (.sub a4c a4D)) (nD (treeB (.sub a1m (.sub a4c a4D))) (.ite (.lt (.sub a1m (.sub a4c a4D)) a0l) (nD (treeB (jP 25)) (jU 1 [a0d,a3w,a0f,a0g,a0p,a0t,a0u,a0l,a0o,a0r,a0v,a0z,a0D,a0y,a0B,a0C,a0N,a0T,a0X,a1m,a1b,a1B,a1F,a1X,a2A,(jP 25)] [] a0J)) (jU 0 e2o [] a0J)))))) (jU 0 e2o [] a0J))) (.ite d0i (lO ff d5X a0K (.ite (.lt a2A a8h) (nD a1U (lO ff d5X a0K (nD (treeB (.sub a4c a2A)) (nD (treeB (.sub a0X (.sub a4c a2A))) (.ite (.lt (.sub a0X (.sub a4c a2A)) a0u) (nD (treeB (jP 24)) (jU 1 [a0d,a2C,a0f,a0g,a0p,a0t,a0u,a0l,a0o,a0r,a0v,a0z,a0D,a0y,a0B,a0C,a0N,a0T,a0X,a1m,a1b,a1B,a1F,a1X,(jP 24),a4D] [] a0J)) (jU 0 e0z [] a0J)))))) (jU 0 e0z [] a0J))) (.ite d0c (lO ff d5H a0K (.ite (.lt a1X a8h) (nD a1U (lO ff d5H a0K (nD (treeB (.sub a4c a1X)) (nD (treeB (.sub a0T (.sub a4c a1X))) (.ite (.lt (.sub a0T (.sub a4c a1X)) a0t) (nD (treeB (jP 23)) (jU 1 [a0d,a2I,a0f,a0g,a0p,a0t,a0u,a0l,a0o,a0r,a0v,a0z,a0D,a0y,a0B,a0C,a0N,a0T,a0X,a1m,a1b,a1B,a1F,(jP 23),a2A,a4D] [] a0J)) (jU 0 e0k [] a0J)))))) (jU 0 e0k [] a0J))) (.ite d1O (lO ff d6H a0K (.ite (.lt a1F a8h) (nD a1U (lO ff d6H a0K (nD (treeB (.sub a4c a1F)) (nD (treeB (.sub a0N (.sub a4c a1F))) (.ite (.lt (.sub a0N (.sub a4c a1F)) a0p) (nD (treeB (jP 22)) (jU 1 [a0d,a2Z,a0f,a0g,a0p,a0t,a0u,a0l,a0o,a0r,a0v,a0z,a0D,a0y,a0B,a0C,a0N,a0T,a0X,a1m,a1b,a1B,(jP 22),a1X,a2A,a4D] [] a0J)) (jU 0 e1o [] a0J)))))) (jU 0 e1o [] a0J))) (.ite c5z (lO ff d5M a0K (.ite (.lt a1B a8h) (nD a1U (lO ff d5M a0K (nD (treeB (.sub a4c a1B)) (nD (treeB (.sub a0C (.sub a4c a1B))) (.ite (.lt (.sub a0C (.sub a4c a1B)) a0g) (nD (treeB (jP 21)) (jU 1 [a0d,a1n,a0f,a0g,a0p,a0t,a0u,a0l,a0o,a0r,a0v,a0z,a0D,a0y,a0B,a0C,a0N,a0T,a0X,a1m,a1b,(jP 21),a1F,a1X,a2A,a4D] [] a0J)) (jU 0 e1N [] a0J)))))) (jU 0 e1N [] a0J))) (.ite b4j (lO ff d1D a0K (.ite (.lt a1b a8h) (nD a1U (lO ff d1D a0K (nD (treeB (.sub a4c a1b)) (nD (treeB (.sub a0B (.sub a4c a1b))) (.ite (.lt (.sub a0B (.sub a4c a1b)) a0f) (nD (treeB (jP 20)) (jU 1 [a0d,a0q,a0f,a0g,a0p,a0t,a0u,a0l,a0o,a0r,a0v,a0z,a0D,a0y,a0B,a0C,a0N,a0T,a0X,a1m,(jP 20),a1B,a1F,a1X,a2A,a4D] [] a0J)) (jU 0 e0f [] a0J)))))) (jU 0 e0f [] a0J))) .stuck)))))))
def a1z:Qq:=⟨[(.sh (.agg [jD,jD,jD,jD,jD,jD])),(.sh (.one .val)),(.sh (.one jD)),(.sh (.agg [jD,jD,jD,jD,jD,jD]))],b2f,[a5V,b0Q],nO,nO⟩
def c4Z:List Cfg:=[{todo:=[(.code (tfR 7 116)),(.inLoop (tfR 7 116)),(.inBlock 0),(.code [tt,tt,tt,tt])],sl:=[(.junk 0),(.va 0),(jA 0),(.junk 1),(.ptr 0 0),.undef,.undef,(.junk 2),(.ptr 2 0),(.ptr 3 0),(.ptr 4 0),(jA 1)]++jkR 3 42++[.undef],H:=[(.cells b0a 51 ff),(.cells b9U 51 ff),(.cells a1w 51 ff),(.cells c5Z 51 ff),(.cells d0X 51 ff)],ni:=26,nb:=0,nv:=1,nj:=45},
 {todo:=[(.code (tfR 12 3728)),(.inLoop (tfR 12 3728)),(.inBlock 2),(.inBlock 1),(.code (tfR 9 467)),(.inLoop (tfR 7 116)),(.inBlock 0),(.code [tt,tt,tt,tt])],sl:=[(.junk 0),(.va 0),(jA 0),(.junk 1),(.ptr 0 0),.undef,.undef,(.junk 2),(.ptr 2 0),(.ptr 3 0),(.ptr 4 0),(jA 1)]++jkR 3 42++[.undef],H:=[(.cells b0a 51 ff),(.cells b9U 51 ff),(.cells a1w 51 ff),(.cells c5Z 51 ff),(.cells d0X 51 ff)],ni:=26,nb:=0,nv:=1,nj:=45}]
def c8d:=okg 110 a1z c4Z func110 call110 tt ff [(tfR 7 116),(tfR 12 3728)]
def c1v:PT:=(.newM [a1L] 3 (cA 131 [(.agg [a1j,a1P,a1N,a1E,a2Y,a2u,a2h]),(.fn 132 0 [(.pa 1 0)])] [] a0W d5Y))
def c0V:Qq:=⟨[(.sh (.one .val)),(.sh (.one jD)),(.sh (.agg [jD,jD,jD,jD,jD,jD]))],c1v,[],nO,nO⟩
def d8z:=okg 118 c0V [] func118 call118 tt ff [] [4] [(12,[2])]
def c4x:PT:=(cA 124 [(.int .i32 a0d)] [] a1A (.ite a3E a4C (cA 137 [(.int .i32 a0d)] [] a1A (.ite a5W a4C (.ret ff (.bool (.eq a0d (.l 95))) [])))))
def c4u:Qq:=⟨[(.sh (.one (.int .i32)))],c4x,[],nO,nO⟩
def e1M:=okg 126 c4u [] func126 call126 ff ff
def b4w:PT:=e2A
def b3H:PT:=(.ite a8b (nD a3T (lO ff d5A c3X (cA 139 [e2p] [] a1A (.ite a4h rF e0H)))) a4C)
def a7Y:Qq:=⟨[(.sh (.one .val))],b4w,[b3H],nO,nO⟩
def c8L:List Cfg:=[{todo:=[(.code (tfR 5 20)),(.inLoop (tfR 5 20)),(.inBlock 0),(.code [tt,tt])],sl:=[(.junk 0),.undef,(.junk 1),.undef,(.junk 2),(.va 0),(jA 0),(jA 1)]++jkR 3 7,H:=[],ni:=2,nb:=0,nv:=1,nj:=10}]
def d2l:=okg 134 a7Y c8L func134 call134 ff ff [(tfR 5 20)]
def a4B:PT:=(nD a1p (.ite (.lt (.l 10) a2H) a4C (nD a3Z (.ite (.lt (.l 10) a0P) a4C (nD a7E (.ite (.lt (.l 20) a2Q) a4C (nD b1d (.ite (.lt (.l 10) a3W) a4C (nD a6f (.ret ff (.bool (.lt (.l 200) a3b)) []))))))))))
def b2J:Qq:=⟨[(.sh (.agg [.val,.val,.val,.val])),(.sh (.one .val))],a4B,[],nO,nO⟩
def c8H:=okg 7 b2J [] func7 call7 ff ff
def b4N:PT:=(nD b4c (.ite a9Y a3z (nD a1k (lO ff a5K a0R (nD a3Z (.ret ff (.int .i64 a0P) []))))))
def b4M:Qq:=⟨[(.sh (.one .val))],b4N,[],nO,nO⟩
def d3s:=okg 15 b4M [] func15 call15 tt ff
def d2V:PT:=(.app nO (.lit [[(.str [97]),(jE 1),(jE 0),(jE 1),(jE 0)]]) 5 (.app nO (.lit [[(.str [120]),(jE 0),(jE 0),(jE 5)],[(.str [121]),(jE 0),(jE 0),(jE 5)]]) 4 (.ret ff (.agg [a1j,a0Q,.nilS,.nilS]) [])))
def c1o:Qq:=⟨[],d2V,[],nO,nO⟩
def d1T:=okg 23 c1o [] func23 call23 ff ff
def c9y:PT:=(.mkM a3W a1h 4 1 1 (.storeM a7F [a1f] c5v))
def c9M:PT:=(.storeM a7F [a1f] (.mkM a3W a1h 4 1 1 c5v))
def c9p:PT:=(.mkM a0P a1w 51 6 48 (lO ff b2P a0R (nD b1d (nD a1k (.both c9y c9M)))))
def c9U:PT:=(.mkM a2Q a1h 4 1 1 (.storeM a7F [a1d] c5v))
def c9m:PT:=(.storeM a7F [a1d] (.mkM a2Q a1h 4 1 1 c5v))
def c9f:PT:=(.mkM a0P a1w 51 6 48 (nD a1k (.both c9U c9m)))
def c9L:PT:=(.mkM a2Q a1h 4 1 1 (.mkM a0P a1w 51 6 48 e7I))
def c9n:PT:=(lO ff b2P a0R (nD a7E (.both c9f c9L)))
def c9b:PT:=(lO ff b2P a0R (nD a3Z (.both c9p c9n)))
def c7K:PT:=(.mkM a0P a1h 4 1 1 (.storeM a7F [a1d] c5v))
def c8e:PT:=(.storeM a7F [a1d] (.mkM a0P a1h 4 1 1 c5v))
def c7w:PT:=(.mkM a2Q a1w 51 6 48 (nD a1k (.both c7K c8e)))
def c7W:PT:=(.mkM a0P a1h 4 1 1 (.mkM a2Q a1w 51 6 48 e7I))
def c7x:PT:=(lO ff b2P a0R (nD a7E (.both c7w c7W)))
def c7s:PT:=(.mkM a0P a1h 4 1 1 (lO ff b2P a0R (nD b1d (.mkM a3W a1w 51 6 48 (nD a1k (.storeM a7F a8k (nD a1k (.storeM c3c [a1f] e0W))))))))
def c7G:PT:=(lO ff b2P a0R (nD a3Z (.both c7x c7s)))
def b4K:PT:=(nD a1k (nD a1k (.both c9b c7G)))
def c1N:Qq:=⟨[(.sh (.one .val))],b4K,[],nO,nO⟩
def c8Z:List Cfg:=[]
def b1v:PT:=(.app (sm 9) (.va 4) 9 (.app nO (.lit [[(jA 4),(jA 5),(jA 6),(jA 7),(jA 8),(jA 9),(.va 5),(.va 8),(.va 6)]]) 9 (.app (sm 10) (.va 11) 9 e2v)))
def b1l:PT:=(.app nO (.lit [[(jA 4),(jA 5),(jA 6),(jA 7),(jA 8),(jA 9),(.va 5),(.va 8),(.va 6)]]) 9 (.app (sm 9) (.va 4) 9 (.app (sm 11) (.va 10) 9 e2v)))
def a7r:PT:=(.app nO (.lit []) 9 (.both b1v b1l))
def a7d:PT:=(.app nO (.lit [[(jA 4),(jA 5),(jA 6),(jA 7),(jA 8),(jA 9),(.va 5),(.va 8),(.va 6)]]) 9 (.app nO (.lit []) 9 (.app (sm 10) (.va 4) 9 (.app (sm 11) (.va 9) 9 e2v))))
def a3o:PT:=(.ite a3E d1z (cA 49 a0J [] a2n (nD b2N (.ite d6p (.app nO (.lit []) 6 (nD a6f (.ite (.lt a0q a3b) (nD a6f (nD (treeB (.sub a3b a1n)) (nD (treeI (.sub a3b a1n) a3b) (lO ff (.ea 4 (.sub a3b a1n) 9 7) a0R (nD (.is 0 9) (.ite (.eq (.slen 9) a0q) (.app nO (.lit []) 6 d5L) (.appM .nilS (.va 9) 6 51 d5L))))))) (.both a7r a7d)))) (.appM .nilS (.va 5) 6 51 (nD a6f (.ite (.lt a0q a3b) (nD a6f (nD (treeB (.sub a3b a1n)) (nD (treeI (.sub a3b a1n) a3b) (lO ff (.ea 4 (.sub a3b a1n) 9 7) a0R (nD (.is 0 9) (.ite (.eq (.slen 9) a0q) (.app nO (.lit []) 6 d5L) (.appM .nilS (.va 9) 6 51 d5L))))))) (.both a7r a7d))))))))
def b0D:PT:=(.app (sm 10) (.va 5) 9 (.app nO (.lit [[(jA 5),(jA 6),(jA 7),(jA 8),(jA 9),(jA 10),(.va 6),(.va 9),(.va 7)]]) 9 (.app (sm 11) (.va 12) 9 e1R)))
def b0G:PT:=(.app nO (.lit [[(jA 5),(jA 6),(jA 7),(jA 8),(jA 9),(jA 10),(.va 6),(.va 9),(.va 7)]]) 9 (.app (sm 10) (.va 5) 9 (.app (sm 12) (.va 11) 9 e1R)))
def b0C:PT:=(.app nO (.lit []) 9 (.both b0D b0G))
def b0E:PT:=(.app nO (.lit [[(jA 5),(jA 6),(jA 7),(jA 8),(jA 9),(jA 10),(.va 6),(.va 9),(.va 7)]]) 9 (.app nO (.lit []) 9 (.app (sm 11) (.va 5) 9 (.app (sm 12) (.va 10) 9 e1R))))
def a3F:PT:=(nD a1p (.ite b6b (nD (treeI a0d (.slen 8)) (lO ff (.ea 8 a0d 1 0) b0j (.ite a5W (nD a1U (.storeM d1D a1w e7A)) e7A))) (cA 73 [a1E,(.agg c0k),a1j,a1G] [] d0t (.both b0C b0E))))
def a8i:PT:=(jU 2 [a0q,a0q,a0d,a0k,a0f,a0g,a0p,a0t,a0u,a0l,a0o,a0r,a0v,a0z,a0D,a0y,a0B,a0C] a6Z a7D)
def a4z:PT:=(nD a1p (.ite b6e (nD a3T (lO ff c2f a0K (nD (treeB (.add a0d a0X)) (nD a1u (jU 2 [(.add a0d a0X),a1M,a0f,a0g,a0p,a0t,a0u,a0l,a0o,a0r,a0v,a0z,a0D,a0y,a0B,a0C,a0N,a0T] a6Z a7D))))) (.ite (.lt a0D a0d) (nD (treeB (.sub a0d a0D)) (jU 3 [a0q,a0q,a0f,a0g,a0p,a0t,a0u,a0l,a0o,a0r,a0v,a0z,a0D,a0y,a0B,a0C,a0N,a0T,(.sub a0d a0D)] [(.t tt),a3E] a7D)) (jU 3 [a0q,a0q,a0f,a0g,a0p,a0t,a0u,a0l,a0o,a0r,a0v,a0z,a0D,a0y,a0B,a0C,a0N,a0T,a0q] [(.t ff),a3E] a7D))))
def a4v:PT:=(nD a1p (.ite b6e (nD a3T (lO ff (.ea 0 a0k 6 1) a0K (nD (treeB (.add a0d a1m)) (nD a1u (jU 3 [(.add a0d a1m),a1M,a0f,a0g,a0p,a0t,a0u,a0l,a0o,a0r,a0v,a0z,a0D,a0y,a0B,a0C,a0N,a0T,a0X] b6w a7D))))) (.ite (.lt a0y a0d) (nD (treeB (.sub a0d a0y)) (jU 4 [a0q,a0q,a0f,a0g,a0p,a0t,a0u,a0l,a0o,a0r,a0v,a0z,a0D,a0y,a0B,a0C,a0N,a0T,a0X,(.sub a0d a0y)] d6v a7D)) (jU 4 [a0q,a0q,a0f,a0g,a0p,a0t,a0u,a0l,a0o,a0r,a0v,a0z,a0D,a0y,a0B,a0C,a0N,a0T,a0X,a0q] b6w a7D))))
def a4x:PT:=(nD a1p (.ite b6e (nD a3T (lO ff (.ea 0 a0k 6 2) a0K (nD (treeB (.add a0d a1b)) (nD a1u (jU 4 [(.add a0d a1b),a1M,a0f,a0g,a0p,a0t,a0u,a0l,a0o,a0r,a0v,a0z,a0D,a0y,a0B,a0C,a0N,a0T,a0X,a1m] b6w a7D))))) (.ite (.lt a0B a0d) (nD (treeB (.sub a0d a0B)) (jU 5 [a0q,a0q,a0f,a0g,a0p,a0t,a0u,a0l,a0o,a0r,a0v,a0z,a0D,a0y,a0B,a0C,a0N,a0T,a0X,a1m,(.sub a0d a0B)] d6v a7D)) (jU 5 [a0q,a0q,a0f,a0g,a0p,a0t,a0u,a0l,a0o,a0r,a0v,a0z,a0D,a0y,a0B,a0C,a0N,a0T,a0X,a1m,a0q] b6w a7D))))
def a4s:PT:=(nD a1p (.ite b6e (nD a3T (lO ff (.ea 0 a0k 6 3) a0K (nD (treeB (.add a0d a1B)) (nD a1u (jU 5 [(.add a0d a1B),a1M,a0f,a0g,a0p,a0t,a0u,a0l,a0o,a0r,a0v,a0z,a0D,a0y,a0B,a0C,a0N,a0T,a0X,a1m,a1b] b6w a7D))))) (.ite (.lt a0C a0d) (nD (treeB (.sub a0d a0C)) (jU 6 [a0q,a0q,a0f,a0g,a0p,a0t,a0u,a0l,a0o,a0r,a0v,a0z,a0D,a0y,a0B,a0C,a0N,a0T,a0X,a1m,a1b,(.sub a0d a0C)] d6v a7D)) (jU 6 [a0q,a0q,a0f,a0g,a0p,a0t,a0u,a0l,a0o,a0r,a0v,a0z,a0D,a0y,a0B,a0C,a0N,a0T,a0X,a1m,a1b,a0q] b6w a7D))))
def a4A:PT:=(nD a1p (.ite b6e (nD a3T (lO ff (.ea 0 a0k 6 4) a0K (nD (treeB (.add a0d a1F)) (nD a1u (jU 6 [(.add a0d a1F),a1M,a0f,a0g,a0p,a0t,a0u,a0l,a0o,a0r,a0v,a0z,a0D,a0y,a0B,a0C,a0N,a0T,a0X,a1m,a1b,a1B] b6w a7D))))) (.ite (.lt a0N a0d) (nD (treeB (.sub a0d a0N)) (jU 7 [a0q,a0q,a0f,a0g,a0p,a0t,a0u,a0l,a0o,a0r,a0v,a0z,a0D,a0y,a0B,a0C,a0N,a0T,a0X,a1m,a1b,a1B,(.sub a0d a0N)] d6v a7D)) (jU 7 [a0q,a0q,a0f,a0g,a0p,a0t,a0u,a0l,a0o,a0r,a0v,a0z,a0D,a0y,a0B,a0C,a0N,a0T,a0X,a1m,a1b,a1B,a0q] b6w a7D))))
def a2K:PT:=(nD a1p (.ite b6e (nD a3T (lO ff (.ea 0 a0k 6 5) a0K (nD (treeB (.add a0d a1X)) (nD a1u (jU 7 [(.add a0d a1X),a1M,a0f,a0g,a0p,a0t,a0u,a0l,a0o,a0r,a0v,a0z,a0D,a0y,a0B,a0C,a0N,a0T,a0X,a1m,a1b,a1B,a1F] b6w a7D))))) (.ite (.lt a0T a0d) (nD (treeB (.sub a0d a0T)) (cA 74 [(.agg [a1N,a1E,a2Y,a2u]),c0x,(.agg [a4H,a4K,a5Q,a6E,a8Q,(.int .i64 (.sub a0d a0T))])] [] d6E e8c)) (cA 74 [(.agg [a1N,a1E,a2Y,a2u]),c0x,(.agg [a4H,a4K,a5Q,a6E,a8Q,a0O])] [] d6E (.ite a4h e1w e8c)))))
def a1c:Qq:=⟨[(.sh (.agg [.val,.val,.val,.val,jD,jD,jD,jD,.val,jD,jD,jD,jD,jD,jD,.val,.val,.val,.bool]))],a3o,[a3F,a8i,a4z,a4v,a4x,a4s,a4A,a2K],nO,nO⟩
def c0Y:List Cfg:=[{todo:=[(.code (tfR 12 3924)),(.inLoop (tfR 12 3924)),(.inBlock 0),(.code (tfR 9 491)),(.code (tfR 5 31))],sl:=[(.junk 0),(.ptr 0 0),(.ptr 1 0),(.junk 1),(.ptr 2 0),(.junk 2),(.va 0),(jA 0)]++udR 7++[(.junk 3),(.junk 4),.undef]++jkR 5 38++udR 82,H:=[(.cells e4e 42 ff),(.cells b4m 42 ff),(.cells c0k 51 ff)],ni:=17,nb:=1,nv:=9,nj:=43},
 {todo:=[(.code (tfR 7 126)),(.code (tfR 7 127))],sl:=[(.junk 0),(.ptr 0 0),(.ptr 1 0),(.junk 1),(.ptr 2 0),(.va 0),(.junk 2),(.junk 3)]++udR 7++[(.junk 4),(.junk 5),.undef]++jkR 6 64++udR 56,H:=[(.cells [a0Q,a1f,a1d,a1i,a1L,a1P,a1N,a1E,a1S,a2Y,a2u,a2h,a2k,a2s,a2f,a1G,a2J,a3U,b3K] 42 ff),(.cells b4m 42 ff),(.cells [a2r,a2L,a4J,a5t,a5S,a6i] 51 ff)],ni:=16,nb:=1,nv:=9,nj:=70},
 {todo:=[(.code (tfR 20 1045652)),(.inLoop (tfR 20 1045652)),(.inBlock 4),(.code (tfR 17 130707)),(.inBlock 3),(.code (tfR 14 16339)),(.inLoop (tfR 12 4084)),(.inBlock 2),(.code (tfR 9 511))],sl:=[(.junk 0),(.ptr 0 0),(.ptr 1 0),(.junk 1),(.ptr 2 0),(.va 0),(.junk 2),(.junk 3),(.ptr 3 0),(.bool (.t ff)),(jE 0),(jA 0),(jA 1),.undef,.undef,(.junk 4),(.junk 5),.undef]++jkR 6 66++[.undef,.undef]++jkR 72 14++udR 38,H:=[(.cells e8E 42 ff),(.cells b4m 42 ff),(.cells b9Z 51 ff),(.cells a1w 51 ff)],ni:=18,nb:=1,nv:=9,nj:=86},
 {todo:=[(.code (tfR 20 1045652)),(.inLoop (tfR 20 1045652)),(.inBlock 4),(.code (tfR 17 130707)),(.inBlock 3),(.code (tfR 14 16339)),(.inLoop (tfR 12 4084)),(.inBlock 2),(.code (tfR 9 511))],sl:=[(.junk 0),(.ptr 0 0),(.ptr 1 0),(.junk 1),(.ptr 2 0),(.va 0),(.junk 2),(.junk 3),(.ptr 3 0),(.bool (.a 0)),(jE 1),(jA 0),(jA 1),.undef,.undef,(.junk 4),(.junk 5),.undef]++jkR 6 94++udR 26,H:=[(.cells d0s 42 ff),(.cells b4m 42 ff),(.cells b9Z 51 ff),(.cells [a4H,a0O,a0O,a0O,a0O,a0O] 51 ff)],ni:=19,nb:=2,nv:=9,nj:=100},
 {todo:=[(.code (tfR 20 1045652)),(.inLoop (tfR 20 1045652)),(.inBlock 4),(.code (tfR 17 130707)),(.inBlock 3),(.code (tfR 14 16339)),(.inLoop (tfR 12 4084)),(.inBlock 2),(.code (tfR 9 511))],sl:=[(.junk 0),(.ptr 0 0),(.ptr 1 0),(.junk 1),(.ptr 2 0),(.va 0),(.junk 2),(.junk 3),(.ptr 3 0),(.bool (.a 0)),(jE 2),(jA 0),(jA 1),.undef,.undef,(.junk 4),(.junk 5),.undef]++jkR 6 94++udR 26,H:=[(.cells d0s 42 ff),(.cells b4m 42 ff),(.cells b9Z 51 ff),(.cells [a4H,a4K,a0O,a0O,a0O,a0O] 51 ff)],ni:=20,nb:=2,nv:=9,nj:=100},
 {todo:=[(.code (tfR 20 1045652)),(.inLoop (tfR 20 1045652)),(.inBlock 4),(.code (tfR 17 130707)),(.inBlock 3),(.code (tfR 14 16339)),(.inLoop (tfR 12 4084)),(.inBlock 2),(.code (tfR 9 511))],sl:=[(.junk 0),(.ptr 0 0),(.ptr 1 0),(.junk 1),(.ptr 2 0),(.va 0),(.junk 2),(.junk 3),(.ptr 3 0),(.bool (.a 0)),(jE 3),(jA 0),(jA 1),.undef,.undef,(.junk 4),(.junk 5),.undef]++jkR 6 94++udR 26,H:=[(.cells d0s 42 ff),(.cells b4m 42 ff),(.cells b9Z 51 ff),(.cells [a4H,a4K,a5Q,a0O,a0O,a0O] 51 ff)],ni:=21,nb:=2,nv:=9,nj:=100},
 {todo:=[(.code (tfR 20 1045652)),(.inLoop (tfR 20 1045652)),(.inBlock 4),(.code (tfR 17 130707)),(.inBlock 3),(.code (tfR 14 16339)),(.inLoop (tfR 12 4084)),(.inBlock 2),(.code (tfR 9 511))],sl:=[(.junk 0),(.ptr 0 0),(.ptr 1 0),(.junk 1),(.ptr 2 0),(.va 0),(.junk 2),(.junk 3),(.ptr 3 0),(.bool (.a 0)),(jE 4),(jA 0),(jA 1),.undef,.undef,(.junk 4),(.junk 5),.undef]++jkR 6 94++udR 26,H:=[(.cells d0s 42 ff),(.cells b4m 42 ff),(.cells b9Z 51 ff),(.cells [a4H,a4K,a5Q,a6E,a0O,a0O] 51 ff)],ni:=22,nb:=2,nv:=9,nj:=100},
 {todo:=[(.code (tfR 20 1045652)),(.inLoop (tfR 20 1045652)),(.inBlock 4),(.code (tfR 17 130707)),(.inBlock 3),(.code (tfR 14 16339)),(.inLoop (tfR 12 4084)),(.inBlock 2),(.code (tfR 9 511))],sl:=[(.junk 0),(.ptr 0 0),(.ptr 1 0),(.junk 1),(.ptr 2 0),(.va 0),(.junk 2),(.junk 3),(.ptr 3 0),(.bool (.a 0)),(jE 5),(jA 0),(jA 1),.undef,.undef,(.junk 4),(.junk 5),.undef]++jkR 6 94++udR 26,H:=[(.cells d0s 42 ff),(.cells b4m 42 ff),(.cells b9Z 51 ff),(.cells [a4H,a4K,a5Q,a6E,a8Q,a0O] 51 ff)],ni:=23,nb:=2,nv:=9,nj:=100}]
def c2m:=okg 39 a1c c0Y func39 call39 tt ff [(tfR 12 3924),(tfR 20 1045652)] [] [] [(tfR 6 63)] [99999,200121] (live:=tt)
def b2Z:PT:=(.ite b6x rF (.ite (.lt a2C a0d) rF (.ite c5C rF (.ite (.lt a2C a0k) rF (.ite c0j rF (.ite c0o rF (.ite b6p rF (.ite c3n rF (.ite b6f rF (.ite (.lt a2C a0p) rF (.ite d1s rF (.ite (.lt a2C a0t) rF a4C))))))))))))
def b2V:Qq:=⟨[(.sh (.agg [jD,jD,jD,jD,jD,jD]))],b2Z,[],nO,nO⟩
def c8M:=okg 47 b2V [] func47 call47 ff ff
def b2S:PT:=(cA 80 [a3h,a1L] [] a1A (.ite a4h a6h (nD a2R (lO ff (.ea 1 a0d 4 2) a0K (.ite (.not b0h) (cA 81 e1C [] a0W (.ite (.lt a0y a0B) (.ret ff (jE 17) []) a3z)) a3z)))))
def b2X:Qq:=⟨[(.sh (.agg [.val,.val,.val,.val])),(.sh (.one jD)),(.sh (.agg [jD,jD,jD,jD,jD,jD,jD,jD,jD,jD,jD,jD]))],b2S,[],nO,nO⟩
def c9j:=okg 55 b2X [] func55 call55 ff ff
def c1s:PT:=(nD a1p (.ite d0p d6w (nD a1p (.ite (.lt a4P a2H) b4o e2A))))
def b0y:PT:=(.ite a8b (nD a3T (lO ff d9m d0U (cA 97 [a0Q] [] a1A (.ite a4h d6h (.cut 0 nO (sm (.a 1)) 5 (cA 98 [a1f,a0Q] [] [a7e,b5T] (.ite a5W c0g (cA 99 [a1N,(jE 1),(jE 4)] [] a1A (.ite (.not (.a 2)) a1e (cA 99 [a1E,a0O,(jE 1000000)] [] a1A (.ite (.not (.a 3)) a1e (cA 99 [a2Y,a0O,(jE 1000)] [] a1A (.ite d5V a1e (cA 99 [a2u,a0O,(jE 4)] [] a1A (.ite (.not (.a 5)) a1e e0H))))))))))))))) (cA 57 a0J [] a2n (cA 100 [c2G] [] a0W (.ite c5X (.ret ff (jE 12) []) a3z))))
def a8P:Qq:=⟨[(.sh (.one .val))],c1s,[b0y],nO,nO⟩
def d5b:List Cfg:=[{todo:=[(.code (tfR 6 52)),(.inLoop (tfR 6 52)),(.inBlock 1),(.code [tt,tt,tt])],sl:=[(.va 0),.undef]++jkR 0 13++[(.va 0),(jA 0),(jA 1)]++jkR 13 41++udR 4,H:=[],ni:=2,nb:=0,nv:=1,nj:=54}]
def d7M:=okg 63 a8P d5b func63 call63 ff ff [(tfR 6 52)]
def a9q:PT:=(cA 102 [a3h,a1L] [] a1A (.ite a4h a6h (nD a2R (lO tt (.ea 1 a0d 4 2) a0K (.ite (.not b0h) (nD a2R (lO tt (.ea 1 a0d 4 2) a0K (cA 103 e1C [] a0W (.ite (.lt a0B a0C) (.ret ff (jE 17) []) a3z)))) a3z)))))
def a9d:Qq:=⟨[(.sh (.agg [.val,.val,.val,.val])),(.sh (.one jD)),(.sh (.agg [jD,jD,jD,jD,jD,jD,jD,jD,jD,jD,jD,jD]))],a9q,[],nO,nO⟩
def c3I:=okg 71 a9d [] func71 call71 ff ff
def c1m:PT:=(.ite b6x a6h (nD a3Z (.ite (.le a0P a0d) a6h (cA 85 [b2L] [] a0W (.ite c0i d5Y (cA 115 [a3h] [] [(.agg a2W),(.agg a2W)] (cA 57 a0J [] a2n (cA 116 [b2L,(.agg d0X)] [] a1A (.ite a4h a7G (cA 117 [a3h,(.agg c5Z),a1L,b2L] [] a2n (cA 116 [(.agg [b9S,(jA 27),(jA 28),(jA 29),(jA 30),(jA 31)]),b2s] [] a1A (.ite d1n a7G (nD a7E (jU 0 [a0d,a2Q,a0q,a0k,a0f,a0g,a0p,a0t,a0u] [] [a1f,a1j,a0Q,a1d]))))))))))))))
def b0n:PT:=(.ite b6k (nD b6s (lO ff (.ea 0 a0f 3 0) b3V (.ite (.eq a0r c3N) e8r (.ite (.eq a0r a0d) e8r (nD a8l (jU 0 e2j [] a0E)))))) a3z)
def a8O:Qq:=⟨[(.sh (.agg [.val,.val,.val,.val])),(.sh (.one jD)),(.sh (.agg [jD,jD,jD,jD,jD,jD]))],c1m,[b0n],nO,nO⟩
def d4F:List Cfg:=[{todo:=[(.code (tfR 9 500)),(.inLoop (tfR 9 500)),(.inBlock 0),(.code (tfR 6 63))],sl:=[(.junk 0),(jA 0),(.junk 1),(.ptr 0 0),.undef,(.ptr 1 0)]++jkR 2 4++[.undef]++jkR 6 14++[.undef]++jkR 20 22++[(.va 0),(jA 1),(jA 2)]++jkR 42 24,H:=[(.cells [a0Q,a1f,a1j,a1d] 27 ff),(.cells e1z 51 ff)],ni:=9,nb:=0,nv:=4,nj:=66}]
def d7U:=okg 79 a8O d4F func79 call79 ff ff [(tfR 9 500)]
def b4H:PT:=(.ret ff (.bool (.and c2L (.and d6s (.and c5X (.and c5S (.and c5O c5w)))))) [])
def b4R:Qq:=⟨[(.sh (.agg [jD,jD,jD,jD,jD,jD,jD,jD,jD,jD,jD,jD]))],b4H,[],nO,nO⟩
def d2P:=okg 87 b4R [] func87 call87 ff ff
def b4t:PT:=(.newM [a1L,a1P,a1N,a1E] 29 (.ret ff (.fn 122 0 [b6q]) []))
def b4u:Qq:=⟨[(.sh (.agg [jD,jD,jD,jD]))],b4t,[],nO,nO⟩
def d3f:=okg 95 b4u [] func95 call95 tt ff [] [1]
def b3m:PT:=e5Y
def b3J:Qq:=⟨[(.sh (.agg [jD,jD,jD,jD,jD,jD])),(.sh (.agg [jD,jD,jD,jD,jD,jD]))],b3m,[],nO,nO⟩
def d0E:=okg 103 b3J [] func103 call103 ff ff
def b0V:PT:=(.ite b6x rF (.ite (.lt a8T a0d) rF (.ite c5C rF (.ite (.lt a8T a0k) rF (.ite c0j rF (.ite (.lt a8T a0f) rF (.ite b6p rF (.ite d6m rF (.ite b6f rF (.ite (.lt a8T a0p) rF (.ite d1s rF (.ite (.lt a8T a0t) rF a4C))))))))))))
def b0P:Qq:=⟨[(.sh (.agg [jD,jD,jD,jD,jD,jD]))],b0V,[],nO,nO⟩
def c6O:=okg 111 b0P [] func111 call111 ff ff
def a9L:PT:=(cA 133 [a1j,(.agg c2E)] [] a0W (.ret ff a5t []))
def a9E:Qq:=⟨[(.sh (.agg [.val,.val,.val,.val,jD,.val])),(.sh (.agg [jD,jD,jD,jD,jD,jD,jD,jD,jD,jD,jD,jD]))],a9L,[],nO,nO⟩
def c4h:=okg 119 a9E [] func119 call119 ff ff
def b4T:PT:=(jU 0 e8w [] a0J)
def a7k:PT:=(nD a1p (.ite b6b (nD a1U (lO ff d1D a0K (nD (treeB (.add a0k a0l)) (nD a1U (lO ff d5M a0K (nD (treeB (.add a0f a0o)) (nD a1U (lO ff d6H a0K (nD (treeB (.add a0g a0r)) (nD a1U (lO ff d5H a0K (nD (treeB (.add a0p a0v)) (nD a1U (lO ff d5X a0K (nD (treeB (.add a0t a0z)) (nD a1U (lO ff d5z a0K (nD (treeB (.add a0u a0D)) (nD a2c (jU 0 [a1R,(.add a0k a0l),(.add a0f a0o),(.add a0g a0r),(.add a0p a0v),(.add a0t a0z),(.add a0u a0D)] [] a0J)))))))))))))))))))) (.ret ff b2L [])))
def a6g:Qq:=⟨[(.sh (.one .val))],b4T,[a7k],nO,nO⟩
def c8Q:List Cfg:=[{todo:=[(.code (tfR 6 52)),(.inLoop (tfR 6 52)),(.inBlock 0),(.code [tt,tt,tt])],sl:=[(.va 0),.undef,(.ptr 0 0),(.ptr 1 0),(jA 0)]++jkR 0 23++[.undef],H:=[(.cells a1w 51 ff),(.cells b2w 51 ff)],ni:=7,nb:=0,nv:=1,nj:=23}]
def d3v:=okg 127 a6g c8Q func127 call127 tt ff [(tfR 6 52)]
def b5g:PT:=(nD a1p (.mkM a2H [a0O] 2 1 8 (nD a1p (.mkM a2H [a0O] 3 1 8 (nD a7E (jU 0 [a2Q,a0q] [] a4L))))))
def a8d:PT:=(.ite a8b (nD c7m (.storeM (.ea 2 a0k 1 0) [(.int .i64 c3N)] (nD a1u (jU 0 b6o [] a4L)))) (nD a1p (jU 1 [c3N,a2H,a0q] [] a4L)))
def a5j:PT:=(.ite b6k (nD a1p (jU 2 [c3N,a0k,a0f,a2H,a0q] [] a4L)) e7d)
def a5c:PT:=(.ite (.lt a0p a0g) (nD a1p (jU 3 [a0d,a0p,a0k,a0f,a0g,a2H,a0q] [] a4L)) (.ite b6x e7d (nD a8l (jU 1 c5K [] a4L))))
def b1T:PT:=(lO ff (.ea 1 a0k 1 0) a0K (cA 140 e6A [] a0W (nD (treeB e2q) (nD d6M (lO ff d5K a0K (.ite (.lt e2q (.a 33)) (nD d6M (.storeM d5K [(.int .i64 e2q)] e6u)) e7D))))))
def b2h:PT:=(cA 140 e6A [] a0W (lO ff (.ea 1 a0k 1 0) a0K (nD (treeB e0A) (nD d6M (lO ff d5K a0K (.ite (.lt e0A (.a 33)) (nD d6M (.storeM d5K [(.int .i64 e0A)] e6u)) e7D))))))
def a3L:PT:=(.ite (.lt a0u a0t) (nD c7d (nD a3T (nD (treeI a0u a2H) (lO ff d5A c3X (lO ff (.ea 0 a0u 12 0) c3X (.both b1T b2h)))))) (nD a1u (jU 2 [a0d,a0f,a0g,a0p,a1M] [] a4L)))
def a1a:Qq:=⟨[(.sh (.one .val))],b5g,[a8d,a5j,a5c,a3L],nO,nO⟩
def d0o:List Cfg:=[{todo:=[(.code (tfR 8 180)),(.inLoop (tfR 8 180)),(.inBlock 0),(.code (tfR 5 23)),(.inScope [ff,tt])],sl:=[(.va 0),.undef,(.junk 0),(.junk 1),(.va 1),(.va 2),(.junk 2)]++udR 4++jkR 3 7++[(jA 0),(jA 1)]++jkR 10 6++udR 54,H:=[],ni:=2,nb:=0,nv:=3,nj:=16},
 {todo:=[(.code (tfR 11 1524)),(.inLoop (tfR 11 1524)),(.inBlock 2),(.code (tfR 8 191)),(.inScope [ff,tt])],sl:=[(.va 0),.undef,(.junk 0),(.junk 1),(.va 1),(.va 2),(.junk 2),(jA 0)]++jkR 3 19++[(jA 1),(jA 2)]++jkR 22 45++udR 6,H:=[],ni:=3,nb:=0,nv:=3,nj:=67},
 {todo:=[(.code (tfR 20 780692)),(.inLoop (tfR 20 780692)),(.inBlock 4),(.code (tfR 17 97587)),(.inBlock 3),(.code (tfR 14 12199)),(.inLoop (tfR 11 1524)),(.inBlock 2),(.code (tfR 8 191)),(.inScope [ff,tt])],sl:=[(.va 0),.undef,(.junk 0),(.junk 1),(.va 1),(.va 2),(.junk 2),(jA 0)]++jkR 3 19++[(jA 1),(jA 2),(.junk 22),(.junk 23),(jA 3),(jA 4)]++jkR 24 41++udR 6,H:=[],ni:=5,nb:=0,nv:=3,nj:=65},
 {todo:=[(.code (tfR 28 199857356)),(.inLoop (tfR 28 199857356)),(.inBlock 6),(.inBlock 5),(.code (tfR 23 6245543)),(.inLoop (tfR 20 780692)),(.inBlock 4),(.code (tfR 17 97587)),(.inBlock 3),(.code (tfR 14 12199)),(.inLoop (tfR 11 1524)),(.inBlock 2),(.code (tfR 8 191)),(.inScope [ff,tt])],sl:=[(.va 0),.undef,(.junk 0),(.junk 1),(.va 1),(.va 2),(.junk 2),(jA 0),(jA 1)]++jkR 3 18++[(jA 2),(jA 3),(.junk 21),(.junk 22),(jA 4),(jA 1),(.junk 23),(.junk 24),(.junk 25),(jA 5),(jA 6)]++jkR 26 36++udR 6,H:=[],ni:=7,nb:=0,nv:=3,nj:=62}]
def d3L:=okg 135 a1a d0o func135 call135 tt tt [(tfR 8 180),(tfR 11 1524),(tfR 20 780692),(tfR 28 199857356)]
def d1N:PT:=(cA 23 [] [] [(.agg b6u)] (cA 9 [a3h,(.agg [(jE 1),a0O,(jE 1),(jE 2)])] [] d0t (.ite c5Q rF (nD (.is 4 4) (.ite (.nil 4) rF (cA 24 [a1i,a0O,d5D] [] a0W (cA 24 e2g [] a0W (cA 25 a8k [] [b5T,a7e] (cA 24 [a1i,a0O,d5D] [] a0W (cA 24 e2g [] a0W (cA 25 a8k [] [b5T,a7e] (cA 24 e2g [] a0W (cA 25 a8k [] [b5T,a7e] (cA 26 [a1i,(jE 1)] [] a3x (.ite b4j (.ite d1H (.ite a4h (.ite (.eq a0g a0q) (.ite d1n (.ite c2L (.ite (.a 2) (.ite c5X (cA 16 a8k [] a1A (.ite (.a 3) (cA 15 a8k [] a0W (.ite (.eq a0r a2I) (cA 14 a8k [] a2n (.ite (.and (.eq a0v a2Z) (.and c5w (.and d1U (.and b0h (.and b4a (.eq a0C a0q)))))) (nD b2N (.ite (.eq a7t a2I) (nD (.lt a2Z a7t) (lO tt (.ea 5 a2Z 12 6) a2W (.ite (.and (.eq a0N a1n) (.and d1Q (.and (.eq a0X a0q) (.and (.eq a1m a0q) (.and (.eq a1b a0q) (.eq a1B a0q)))))) (cA 24 [a1i,a0O,d5D] [] a0W (.ite (.eq a1F (.l 10)) (cA 27 [a1i,(jE 1)] [] a0W (.ite (.eq a1X a0q) (cA 14 a8k [] a2n (.ite (.and (.eq a2A a1n) (.and (.eq a4D a0q) (.and (.eq a8h a0q) (.and (.eq a4c a0q) (.and (.eq b9f a0q) e0D))))) (cA 16 a8k [] a1A (.ret ff (.bool d5V) [])) rF)) rF)) rF)) rF))) rF)) rF)) rF)) rF)) rF) rF) rF) rF) rF) rF) rF) rF)))))))))))))))
def c0d:Qq:=⟨[],d1N,[],nO,nO⟩
def c8U:=okg 8 c0d [] func8 call8 ff ff
def b5V:PT:=(nD b4c (.ite (.not a9Y) (nD a1k (lO ff c0h b0j (.ret ff b3K []))) rF))
def b6a:Qq:=⟨[(.sh (.one .val))],b5V,[],nO,nO⟩
def d4k:=okg 16 b6a [] func16 call16 tt ff
def a7x:PT:=(lO ff (.pa 0 7) a0K (cA 26 c1x [] a3x e0v))
def a7m:PT:=(cA 26 c1x [] a3x (lO ff (.pa 0 7) a0K e0v))
def a7B:PT:=(lO ff b6q b6u (.both a7x a7m))
def a7i:PT:=(lO ff b6q b6u (cA 26 c1x [] a3x e0v))
def a7h:PT:=(cA 26 c1x [] a3x (lO ff b6q b6u e8d))
def a7g:PT:=(lO ff (.pa 0 7) a0K (.both a7i a7h))
def a7j:PT:=(cA 26 c1x [] a3x (lO ff b6q b6u (lO ff (.pa 0 7) a0K e8d)))
def a7l:PT:=(.both a7g a7j)
def a5O:PT:=(lO ff b3U a2W (nD a1k (lO ff b6q b6u (cA 54 [(.agg e2b),a1L,b2L] [] a0W (.ite (.not b0h) (.ret tt a5t []) (nD a1k (lO ff b6q b6u (cA 55 [(.agg [a1G,a2J,a3U,a7o]),a1L,e0t] [] a0W (.ite c2h (.ret tt a5S []) (nD a1k (nD a1k (.both a7B a7l))))))))))))
def a3R:PT:=(nD b4c (.ite a9Y c5L (nD a1k (lO ff c0h b0j (.ite a3E d6B (cA 53 c1x [] a1A (.ite d1n c5L (nD a1k (lO ff b2P a0R (nD a2R (lO ff (.ea 1 a0d 1 0) b0j (.ite (.a 2) d6B (nD a1k (.both a5O a5O))))))))))))))
def b2p:Qq:=⟨[(.sh (.one .val)),(.sh (.one jD)),(.sh (.agg [jD,jD,jD,jD,jD,jD]))],a3R,[],nO,nO⟩
def d5c:=okg 24 b2p [] func24 call24 tt tt
def b2G:PT:=(nD a1p (.ite c0n (nD c0n (lO ff (.ea 0 a0q 5 2) a0K (nD a1p (.ite c3b (nD c3b (lO ff (.ea 0 a1n 5 2) a0K (nD a1p (.ite c2k (nD c2k (lO ff (.ea 0 a2Z 5 2) a0K (nD a1p (.ite c3e (nD c3e (lO ff (.ea 0 a2I 5 2) a0K (nD a1p (.ite c2D (nD c2D (lO ff (.ea 0 a2C 5 2) a0K (nD a1p (.ite c2K (nD c2K (lO ff (.ea 0 a3w 5 2) a0K e6V)) e7h)))) e7t)))) e7w)))) e6g)))) e6S)))) e1A))
def b2O:Qq:=⟨[(.sh (.one .val))],b2G,[],nO,nO⟩
def c9z:=okg 32 b2O [] func32 call32 ff ff
def a4Q:PT:=(.ite a3E d1z (cA 75 [(.agg [a1j,a0Q,a1f,a1d,a1L,a1P,a1N,a1E,a1i,a2Y,a2u,a2h,a2k,a2s,a2f,a1S,a1G,a2J,b1e])] [] [c1Y] (.ret ff (.tup [(.agg [a3U,a7o,a7s,b1b,a2r,a2L,a4J,a5t,b0X,a5S,a6i,a7K,a8U,a4H,a4K,b1a,b3Z,c0v,b6g]),a0O]) [])))
def a9p:Qq:=⟨[(.sh (.agg [.val,.val,.val,.val,jD,jD,jD,jD,.val,jD,jD,jD,jD,jD,jD,.val,.val,.val,.bool]))],a4Q,[],nO,nO⟩
def c3L:=okg 40 a9p [] func40 call40 ff ff
def b3r:PT:=(cA 18 [a3h] [] a0W (.ite c5Q (.ret ff (.tup [d0A,d0A]) []) (jU 0 e8w [] a0E)))
def a6C:PT:=(nD a1p (.ite b6b (nD a1U (lO ff (.ea 0 a0d 5 1) a0K (.ite d1E (jU 0 [a4P,a0k,a0f,a0g,a0p,a0t,a0l] [] a0E) (.ite d0n (jU 0 [a3w,a0k,a0f,a0g,a0p,a0l,a0u] [] a0E) (.ite b6n (jU 0 [a2C,a0k,a0f,a0g,a0l,a0t,a0u] [] a0E) (.ite b4g (jU 0 [a2I,a0k,a0f,a0l,a0p,a0t,a0u] [] a0E) (.ite b3X (jU 0 [a2Z,a0k,a0l,a0g,a0p,a0t,a0u] [] a0E) (.ite b4k (jU 0 [a1n,a0l,a0f,a0g,a0p,a0t,a0u] [] a0E) .stuck)))))))) (jU 1 [a0q,a0k,a0f,a0g,a0p,a0t,a0u,a0q,a0q,a0q,a0q,a0q,a0q] [] a0E)))
def a6H:PT:=(nD b1d (.ite (.lt a0d a3W) (nD (treeI a0d a3W) (lO ff (.ea 3 a0d 3 0) b3V (.ite c3i (nD (treeB c2o) (.ite c3i (nD a2c (jU 1 [a1R,a0k,a0f,a0g,a0p,a0t,c2o,a0l,a0o,a0r,a0v,a0z,a0B] [] a0E)) (.ite c2X (nD a2c (jU 1 [a1R,a0k,a0f,a0g,a0p,a0t,c2o,a0l,a0o,a0r,a0v,a0B,a0D] [] a0E)) (.ite c3h (nD a2c (jU 1 [a1R,a0k,a0f,a0g,a0p,a0t,c2o,a0l,a0o,a0r,a0B,a0z,a0D] [] a0E)) (.ite c1U (nD a2c (jU 1 [a1R,a0k,a0f,a0g,a0p,a0t,c2o,a0l,a0o,a0B,a0v,a0z,a0D] [] a0E)) (.ite c3l (nD a2c (jU 1 [a1R,a0k,a0f,a0g,a0p,a0t,c2o,a0l,a0B,a0r,a0v,a0z,a0D] [] a0E)) (.ite b0h (nD a2c (jU 1 [a1R,a0k,a0f,a0g,a0p,a0t,c2o,a0B,a0o,a0r,a0v,a0z,a0D] [] a0E)) .stuck))))))) (.ite c2X (nD (treeB c3m) (.ite c3i (nD a2c (jU 1 [a1R,a0k,a0f,a0g,a0p,c3m,a0u,a0l,a0o,a0r,a0v,a0z,a0B] [] a0E)) (.ite c2X (nD a2c (jU 1 [a1R,a0k,a0f,a0g,a0p,c3m,a0u,a0l,a0o,a0r,a0v,a0B,a0D] [] a0E)) (.ite c3h (nD a2c (jU 1 [a1R,a0k,a0f,a0g,a0p,c3m,a0u,a0l,a0o,a0r,a0B,a0z,a0D] [] a0E)) (.ite c1U (nD a2c (jU 1 [a1R,a0k,a0f,a0g,a0p,c3m,a0u,a0l,a0o,a0B,a0v,a0z,a0D] [] a0E)) (.ite c3l (nD a2c (jU 1 [a1R,a0k,a0f,a0g,a0p,c3m,a0u,a0l,a0B,a0r,a0v,a0z,a0D] [] a0E)) (.ite b0h (nD a2c (jU 1 [a1R,a0k,a0f,a0g,a0p,c3m,a0u,a0B,a0o,a0r,a0v,a0z,a0D] [] a0E)) .stuck))))))) (.ite c3h (nD (treeB c2R) (.ite c3i (nD a2c (jU 1 [a1R,a0k,a0f,a0g,c2R,a0t,a0u,a0l,a0o,a0r,a0v,a0z,a0B] [] a0E)) (.ite c2X (nD a2c (jU 1 [a1R,a0k,a0f,a0g,c2R,a0t,a0u,a0l,a0o,a0r,a0v,a0B,a0D] [] a0E)) (.ite c3h (nD a2c (jU 1 [a1R,a0k,a0f,a0g,c2R,a0t,a0u,a0l,a0o,a0r,a0B,a0z,a0D] [] a0E)) (.ite c1U (nD a2c (jU 1 [a1R,a0k,a0f,a0g,c2R,a0t,a0u,a0l,a0o,a0B,a0v,a0z,a0D] [] a0E)) (.ite c3l (nD a2c (jU 1 [a1R,a0k,a0f,a0g,c2R,a0t,a0u,a0l,a0B,a0r,a0v,a0z,a0D] [] a0E)) (.ite b0h (nD a2c (jU 1 [a1R,a0k,a0f,a0g,c2R,a0t,a0u,a0B,a0o,a0r,a0v,a0z,a0D] [] a0E)) .stuck))))))) (.ite c1U (nD (treeB c2Y) (.ite c3i (nD a2c (jU 1 [a1R,a0k,a0f,c2Y,a0p,a0t,a0u,a0l,a0o,a0r,a0v,a0z,a0B] [] a0E)) (.ite c2X (nD a2c (jU 1 [a1R,a0k,a0f,c2Y,a0p,a0t,a0u,a0l,a0o,a0r,a0v,a0B,a0D] [] a0E)) (.ite c3h (nD a2c (jU 1 [a1R,a0k,a0f,c2Y,a0p,a0t,a0u,a0l,a0o,a0r,a0B,a0z,a0D] [] a0E)) (.ite c1U (nD a2c (jU 1 [a1R,a0k,a0f,c2Y,a0p,a0t,a0u,a0l,a0o,a0B,a0v,a0z,a0D] [] a0E)) (.ite c3l (nD a2c (jU 1 [a1R,a0k,a0f,c2Y,a0p,a0t,a0u,a0l,a0B,a0r,a0v,a0z,a0D] [] a0E)) (.ite b0h (nD a2c (jU 1 [a1R,a0k,a0f,c2Y,a0p,a0t,a0u,a0B,a0o,a0r,a0v,a0z,a0D] [] a0E)) .stuck))))))) (.ite c3l (nD (treeB c2g) (.ite c3i (nD a2c (jU 1 [a1R,a0k,c2g,a0g,a0p,a0t,a0u,a0l,a0o,a0r,a0v,a0z,a0B] [] a0E)) (.ite c2X (nD a2c (jU 1 [a1R,a0k,c2g,a0g,a0p,a0t,a0u,a0l,a0o,a0r,a0v,a0B,a0D] [] a0E)) (.ite c3h (nD a2c (jU 1 [a1R,a0k,c2g,a0g,a0p,a0t,a0u,a0l,a0o,a0r,a0B,a0z,a0D] [] a0E)) (.ite c1U (nD a2c (jU 1 [a1R,a0k,c2g,a0g,a0p,a0t,a0u,a0l,a0o,a0B,a0v,a0z,a0D] [] a0E)) (.ite c3l (nD a2c (jU 1 [a1R,a0k,c2g,a0g,a0p,a0t,a0u,a0l,a0B,a0r,a0v,a0z,a0D] [] a0E)) (.ite b0h (nD a2c (jU 1 [a1R,a0k,c2g,a0g,a0p,a0t,a0u,a0B,a0o,a0r,a0v,a0z,a0D] [] a0E)) .stuck))))))) (.ite b0h (nD (treeB c2T) (.ite c3i (nD a2c (jU 1 [a1R,c2T,a0f,a0g,a0p,a0t,a0u,a0l,a0o,a0r,a0v,a0z,a0B] [] a0E)) (.ite c2X (nD a2c (jU 1 [a1R,c2T,a0f,a0g,a0p,a0t,a0u,a0l,a0o,a0r,a0v,a0B,a0D] [] a0E)) (.ite c3h (nD a2c (jU 1 [a1R,c2T,a0f,a0g,a0p,a0t,a0u,a0l,a0o,a0r,a0B,a0z,a0D] [] a0E)) (.ite c1U (nD a2c (jU 1 [a1R,c2T,a0f,a0g,a0p,a0t,a0u,a0l,a0o,a0B,a0v,a0z,a0D] [] a0E)) (.ite c3l (nD a2c (jU 1 [a1R,c2T,a0f,a0g,a0p,a0t,a0u,a0l,a0B,a0r,a0v,a0z,a0D] [] a0E)) (.ite b0h (nD a2c (jU 1 [a1R,c2T,a0f,a0g,a0p,a0t,a0u,a0B,a0o,a0r,a0v,a0z,a0D] [] a0E)) .stuck))))))) .stuck)))))))) (.ret ff (.tup e1C) [])))
def a1r:Qq:=⟨[(.sh (.agg [.val,.val,.val,.val]))],b3r,[a6C,a6H],nO,nO⟩
def c7p:List Cfg:=[{todo:=[(.code (tfR 7 116)),(.inLoop (tfR 7 116)),(.inBlock 0),(.code [tt,tt,tt,tt])],sl:=[(.junk 0),(.ptr 0 0),(.ptr 1 0),(.ptr 2 0),(.ptr 3 0),(.ptr 4 0),(jA 0),.undef,.undef,(.junk 1),(.junk 2),(.junk 3),.undef,.undef]++jkR 4 15++udR 29,H:=[(.cells a0E 27 ff),(.cells a1w 51 ff),(.cells a1w 51 ff),(.cells b2w 51 ff),(.cells a1w 51 ff)],ni:=7,nb:=0,nv:=4,nj:=19},
 {todo:=[(.code (tfR 8 244)),(.inLoop (tfR 8 244)),(.inBlock 2),(.code (tfR 5 31))],sl:=[(.junk 0),(.ptr 0 0),(.ptr 1 0),(.ptr 2 0),(.ptr 3 0),(.ptr 4 0),(.junk 1),(jA 0)]++jkR 2 4++[.undef,.undef]++jkR 6 42++[.undef,.undef],H:=[(.cells a0E 27 ff),(.cells a1w 51 ff),(.cells a1w 51 ff),(.cells b2w 51 ff),(.cells c2E 51 ff)],ni:=13,nb:=0,nv:=4,nj:=48}]
def d0r:=okg 48 a1r c7p func48 call48 ff ff [(tfR 7 116),(tfR 8 244)]
def b8E:PT:=(.ite b3X (cA 80 [a3h,a1P] [] a1A (.ite a4h a6h (cA 85 [b2s] [] a0W (.ite c2h d6f (cA 86 a8k [] a1A (.ite a5W e1P (cA 82 e2x [] a1A d5O))))))) (.ite b4g (cA 80 [a3h,a1P] [] a1A (.ite a4h a6h (cA 85 [b2s] [] a0W (.ite c2h d6f (cA 86 a8k [] a1A (.ite a5W e1P (cA 83 e2x [] a1A d5O))))))) (.ite b6n (cA 80 [a3h,a1P] [] a1A (.ite a4h a6h (cA 85 [b2s] [] a0W (.ite c2h d6f (cA 86 a8k [] a1A (.ite a5W e1P (cA 84 e2x [] a1A d5O))))))) a1e)))
def b8C:Qq:=⟨[(.sh (.agg [.val,.val,.val,.val])),(.sh (.one jD)),(.sh (.one jD)),(.sh (.one .val)),(.sh (.agg [jD,jD,jD,jD,jD,jD,jD,jD,jD,jD,jD,jD]))],b8E,[],nO,nO⟩
def d5q:=okg 56 b8C [] func56 call56 ff ff [] [] [(43,[4])]
def c2U:PT:=(nD a1p (.ite d0p d6w (nD a1p (.ite d6A b4o e2A))))
def b1j:PT:=(.ite a8b (nD a3T (lO ff (.ea 0 a0k 4 0) [.val,jD,jD,jD] (cA 97 [a0Q] [] a1A (.ite a4h d6h (.cut 0 nO (sm (.a 1)) 4 (cA 101 [a1f,a0Q] [] [a7e,b5T] (.ite a5W c0g (.ite c0j a1e (.ite c0o a1e (.ite b6p a1e (.ite d6m a1e (.ite b6f a1e (.ite (.lt (.l 24000) a0p) a1e e0H))))))))))))) a3z)
def b0b:Qq:=⟨[(.sh (.one .val))],c2U,[b1j],nO,nO⟩
def d7f:List Cfg:=[{todo:=[(.code (tfR 6 52)),(.inLoop (tfR 6 52)),(.inBlock 1),(.code [tt,tt,tt])],sl:=[(.va 0),.undef]++jkR 0 13++[(.va 0),(jA 0),(jA 1)]++jkR 13 47,H:=[],ni:=2,nb:=0,nv:=1,nj:=60}]
def d8R:=okg 64 b0b d7f func64 call64 ff ff [(tfR 6 52)]
def a9O:PT:=e6a
def a9Q:PT:=e5O
def a9B:PT:=(.app nO (.lit []) 12 (.both a9O a9Q))
def a9R:PT:=e6q
def a9V:PT:=e6a
def a9y:PT:=e5O
def a9M:PT:=(.app nO (.lit []) 12 (.both a9V a9y))
def a9H:PT:=e6q
def a8z:PT:=(.ite d5J a1e (.ite (.lt a2I a0d) a1e (cA 102 [a3h,a1P] [] a1A (.ite a4h a6h (cA 104 [b2s] [] a0W (.ite c2h d6f (cA 105 a8k [] a1A (.ite a5W (.ite (.and c5X (.and c5S (.and c5O (.and c5w (.and d1U b0h))))) a3z d1M) (.ite (.not b4g) (cA 106 [a3h,b2s] [] a0W (cA 107 [a3h,a1P,a1i] [] a0W (.ite (.le a0C a0N) a3z (.ite (.not b3X) (.both a9B a9R) d1M)))) (.ite (.not b3X) (.both a9M a9H) d1M))))))))))
def b1A:Qq:=⟨[(.sh (.agg [.val,.val,.val,.val])),(.sh (.one jD)),(.sh (.one jD)),(.sh (.one .val)),(.sh (.agg [jD,jD,jD,jD,jD,jD,jD,jD,jD,jD,jD,jD]))],a8z,[],nO,nO⟩
def c7S:=okg 72 b1A [] func72 call72 ff ff
def c1X:PT:=(.ite d1q e0o rF)
def c2s:Qq:=⟨[(.sh (.agg [.val,.val,.val,.val])),(.sh (.one jD))],c1X,[],nO,nO⟩
def d9q:=okg 80 c2s [] func80 call80 ff ff
def b8J:PT:=(.ite d5J a1e (.ite (.lt a2I a0d) a1e (nD a1p (nD a3Z (.ite e1i b4o (nD a1p (.ite d6A b4o (cA 85 [b2L] [] a0W (.ite c0i a1e e7c)))))))))
def a5v:PT:=(.ite b6k (nD (treeI a0f a2Q) (lO ff (.ea 2 a0f 6 0) a2W (cA 85 [b6m] [] a0W (.ite (.not c5S) a1e (nD a8l (jU 0 c5K [] a4L)))))) (nD a2c (.ite (.lt a1R a2Z) (.ite (.eq a1R a1n) (nD a3Z (jU 0 [a1n,a0P,a0q] [] [a1j,a0Q,a0Q])) (.ite (.eq a1R a0q) e7c .stuck)) a3z)))
def a3k:Qq:=⟨[(.sh (.one jD)),(.sh (.agg [jD,jD,jD,jD,jD,jD])),(.sh (.one .val)),(.sh (.one .val))],b8J,[a5v],nO,nO⟩
def d2S:List Cfg:=[{todo:=[(.code (tfR 14 13516)),(.inLoop (tfR 14 13516)),(.inBlock 3),(.inBlock 2),(.code (tfR 9 423)),(.inLoop (tfR 6 52)),(.inBlock 1),(.code [tt,tt,tt])],sl:=jkR 0 4++[.undef,(.junk 4),.undef,.undef,(.junk 5),.undef,(.junk 6),.undef]++jkR 7 25++[(.agg [(.va 0),(.va 1)]),(jA 0),(.junk 32),(.junk 33),(.va 2),(jA 1),(jA 2)]++jkR 34 8,H:=[],ni:=3,nb:=0,nv:=3,nj:=42}]
def d5j:=okg 88 a3k d2S func88 call88 tt ff [(tfR 14 13516)]
def b5y:PT:=(cA 123 [a1L] [] a0W (.ite (.not c2L) rF (cA 123 [a1P] [] a0W (.ite c0i rF (cA 123 [a1N] [] a0W (.ite (.not c5X) rF (cA 123 [a1E] [] a0W (.ite (.not c5S) rF (cA 123 [a2Y] [] a0W (.ite (.not c5O) rF (cA 123 [a2u] [] a0W (.ite (.not c5w) rF a4C))))))))))))
def b5B:Qq:=⟨[(.sh (.agg [jD,jD,jD,jD,jD,jD]))],b5y,[],nO,nO⟩
def d3V:=okg 96 b5B [] func96 call96 ff ff
def b2D:PT:=e7E
def b2I:Qq:=⟨[(.sh (.agg [jD,jD,jD,jD,jD,jD]))],b2D,[],nO,nO⟩
def c8N:=okg 104 b2I [] func104 call104 ff ff
def b1D:PT:=(nD (treeB (.mul a0p a0k)) (nD (treeB d1C) (.ite (.lt a0q (.tmod (.mul a0p a0k) (.l 100))) (nD (treeB (.add d1C a1n)) (nD (treeB (.add a0p a0d)) (nD (treeB e7b) (.ret ff (.int .i64 e7b) [])))) (nD (treeB (.add a0p a0d)) (nD (treeB (.add (.add a0p a0d) d1C)) (.ret ff (.int .i64 (.add (.add a0p a0d) d1C)) []))))))
def b2j:Qq:=⟨[(.sh (.agg [jD,jD,jD,jD])),(.sh (.one jD))],b1D,[],nO,nO⟩
def c7O:=okg 112 b2j [] func112 call112 ff ff
def b1x:PT:=(cA 80 [a3h,a1L] [] a1A (.ite a4h a3z (nD a2R (lO tt (.ea 1 a0d 4 3) a0K (nD a6f (jU 0 [a0d,a0k,a3b,a0q] [] d1u))))))
def a5U:PT:=(.ite (.lt a0g a0f) (nD (treeI a0g a3b) (lO ff (.ea 4 a0g 12 0) c3X (cA 119 [e8l,(.agg [a2Y,a2u,a2h,a2k,a2s,a2f,a2r,a2L,a4J,a5t,a5S,a6i])] [] a0W (nD b9Y (jU 0 [a0d,(.mn a0k a0N),a0f,(jP 3)] [] d1u))))) e2l)
def a4U:Qq:=⟨[(.sh (.agg [.val,.val,.val,.val])),(.sh (.one jD)),(.sh (.one .val))],b1x,[a5U],nO,nO⟩
def c4X:List Cfg:=[{todo:=[(.code (tfR 7 116)),(.inLoop (tfR 7 116)),(.inBlock 0),(.code [tt,tt,tt,tt])],sl:=jkR 0 4++[.undef,.undef,(.junk 4),(.fn 119 1 [(.agg [(.va 0),(.va 1),(.va 2),(.va 3),(jA 0),(.va 4)])]),(jA 1),.undef]++jkR 5 16++[(.va 4),(jA 2),(jA 3)]++jkR 21 9++[.undef],H:=[],ni:=4,nb:=0,nv:=5,nj:=30}]
def c7H:=okg 120 a4U c4X func120 call120 ff ff [(tfR 7 116)] [] [(33,[3])]
def b2M:PT:=e6s
def b2K:Qq:=⟨[(.sh (.one (.int .u8)))],b2M,[],nO,nO⟩
def c9B:=okg 128 b2K [] func128 call128 ff ff
def c9d:PT:=(.ite d1q (.ret ff (.bool (.le a0d a8T)) []) rF)
def c9c:Qq:=⟨[(.sh (.one jD))],c9d,[],nO,nO⟩
def e4T:=okg 136 c9c [] func136 call136 ff ff
def d1B:PT:=(cA 19 a0J [] a2n (.mkM a0P a1h 4 1 1 e8s))
def d1j:PT:=(.mkM a0P a1h 4 1 1 (cA 19 a0J [] a2n e8s))
def d1r:PT:=(cA 30 [a3h] [] [(.agg b6u)] (.both d1B d1j))
def d1P:PT:=(.mkM a0P a1h 4 1 1 (cA 30 [a3h] [] [(.agg b6u)] (cA 19 a0J [] a2n (.newM [a1S,a1G,a2J,a3U,a1L,a1P,a1N,a1E,.nilS,a2h,a2k,a2s,a2f,a2r,a2L,.nilS,.nilS,a1i,a3H] 79 e7M))))
def b1W:PT:=(cA 28 [a3h] [] a0W (.ite (.not c0c) (.ret tt (.tup [.nilP,a2Y]) []) (cA 29 d0g [] a0W (.ite (.not (.eq a0t a0q)) (.ret tt (.tup [.nilP,a2u]) []) (nD a3Z (.both d1r d1P))))))
def c8Y:Qq:=⟨[(.sh (.agg [.val,.val,.val,.val])),(.sh (.agg [jD,jD,jD,jD]))],b1W,[],nO,nO⟩
def e4F:=okg 9 c8Y [] func9 call9 tt tt [] [30]
def b3b:PT:=e7F
def b2F:Qq:=⟨[(.sh (.agg [jD,jD,jD,jD]))],b3b,[],nO,nO⟩
def c9T:=okg 17 b2F [] func17 call17 ff ff
def b1S:PT:=(cA 59 a0J [] a3x e7p)
def b1Y:PT:=(lO ff a7F a0R (cA 59 a0J [] a3x e1d))
def b1H:PT:=(lO ff (.pa 0 6) a0K (.both b1S b1Y))
def b1V:PT:=(cA 59 a0J [] a3x (lO ff (.pa 0 6) a0K e7p))
def b1K:PT:=(lO ff (.pa 0 6) a0K (cA 59 a0J [] a3x e1d))
def b1B:PT:=(cA 59 a0J [] a3x (lO ff (.pa 0 6) a0K e1d))
def b1O:PT:=(lO ff a7F a0R (.both b1K b1B))
def b1I:PT:=(.both b1V b1O)
def b1P:PT:=(lO ff a5K a0R (.app nO (.lit [[(jA 6),(jA 7),(jA 8),(jA 9),(jA 10),(jA 11),(.va 5),(.va 3),(.va 6)]]) 9 (.appM a2J (.va 8) 9 65 e8p)))
def b0S:PT:=(.app nO (.lit [[(jA 6),(jA 7),(jA 8),(jA 9),(jA 10),(jA 11),(.va 5),(.va 3),(.va 6)]]) 9 (lO ff a5K a0R (.appM a3U (.va 7) 9 65 e8p)))
def a5i:PT:=(nD b4c (.ite a9Y (.ret tt (.tup [a3H,(jE 6)]) []) (nD a1k (lO ff c0h b0j (.ite a3E (.ret tt (.tup [a3H,(jE 10)]) []) (nD a1k (lO ff b6q a0R (cA 57 [a0Q] [] a2n (nD a1k (lO ff a7F a0R (cA 51 [a1f] [] a3x (nD a1k (lO ff a5K a0R (nD a6f (.ite (.lt a0q a3b) (nD a1k (nD a1k (.both b1H b1I))) (nD a1k (nD a1k (nD a1k (nD a1k (lO ff b3U a2W (lO ff a7F a0R (lO ff c3c a0R (.both b1P b0S)))))))))))))))))))))))
def b8j:PT:=(lO ff a5K a0R (.app nO (.lit [[(jA 7),(jA 8),(jA 9),(jA 10),(jA 11),(jA 12),(.va 2),(.va 1),(.va 3)]]) 9 (.appM a1i (.va 5) 9 65 e7v)))
def b6X:PT:=(.app nO (.lit [[(jA 7),(jA 8),(jA 9),(jA 10),(jA 11),(jA 12),(.va 2),(.va 1),(.va 3)]]) 9 (lO ff a5K a0R (.appM a1S (.va 4) 9 65 e7v)))
def a9J:PT:=(.ite c5Q (.ret tt (.tup [a3H,a1L]) []) (nD a1k (nD a1k (nD a1k (nD a1k (lO ff b3U a2W (lO ff a7F a0R (lO ff c3c a0R (.both b8j b6X)))))))))
def b0O:PT:=e0I
def b7a:PT:=(lO ff b3U a2W (.both b0O b0O))
def b8h:PT:=(lO ff b3U a2W e0I)
def b7I:PT:=(lO ff (.pa 0 4) d5W (.both b7a b8h))
def b0I:PT:=e6b
def b8e:PT:=(lO ff (.pa 0 4) d5W (.both b0I b0I))
def b8q:PT:=(lO ff (.pa 0 4) d5W e6b)
def b6Y:PT:=(lO ff b3U a2W (.both b8e b8q))
def b6D:PT:=(lO ff (.pa 0 4) d5W (lO ff b3U a2W e0I))
def b5i:PT:=(.both b6Y b6D)
def a9D:PT:=(cA 31 a0J [] [] (cA 60 [b2Y,a0Q] [] a2n (nD a1k (nD a1k (.both b7I b5i)))))
def a5I:PT:=(.ite (.and d6s (.and c5X (.and c5S (.and c5O (.and c5w d1U))))) e1t (nD a1k (lO ff a5K a0R (nD a3Z (.ite (.le (.l 30) a0P) e1t (.ite c5Q e1t (nD a1k (.storeM b3U c3s (.ret tt (.tup [a3H,a0O]) [])))))))))
def a3e:Qq:=⟨[(.sh (.one .val))],a5i,[a9J,a9D,a5I],nO,nO⟩
def c8P:List Cfg:=[{todo:=[(.code (tfR 9 490)),(.code (tfR 9 491)),(.code (tfR 5 31))],sl:=[(.va 0),.undef,(.junk 0),(.junk 1),(.ptr 0 0),(.junk 2),(.va 1),(jA 0),.undef,.undef,.undef]++jkR 3 41++udR 67,H:=[(.cells b2w 51 ff)],ni:=7,nb:=0,nv:=2,nj:=44},
 {todo:=[(.code (tfR 7 126)),(.code (tfR 7 127))],sl:=[(.va 0),.undef,(.junk 0),(.junk 1),(.ptr 0 0),(.va 1),(.junk 2),(.junk 3),.undef,.undef,.undef]++jkR 4 43++[.undef]++jkR 47 24++udR 40,H:=[(.cells e1K 51 ff)],ni:=6,nb:=0,nv:=2,nj:=71},
 {todo:=[(.code (tfR 10 1022)),(.code (tfR 10 1023))],sl:=[(.va 0),.undef]++jkR 0 6++[(.ptr 1 0),(.ptr 2 0),(jA 0)]++jkR 6 43++[.undef]++jkR 49 42++udR 22,H:=[(.cells b2w 51 ff),(.cells c2E 51 ff),(.cells c3s 38 ff)],ni:=19,nb:=0,nv:=1,nj:=91}]
def d2x:=okg 25 a3e c8P func25 call25 tt tt [] [] [] [(tfR 8 245),(tfR 6 63),(tfR 9 511)] (live:=tt)
def b3z:PT:=(nD a1p (nD a3Z (.ite e1i rF e2E)))
def b5S:PT:=(lO ff b4b a0R (nD b2t (lO ff b4f a0R (nD b0f (.ite c0e rF (jU 1 [a0d,a0q,a0d,a2Q,a3W,a3b,a7t,a9Z,a6K] [d1p,c5E,c0e] e5P))))))
def b5D:PT:=(lO ff b4f a0R (nD b2t (lO ff b4b a0R (nD b0f (.ite c0q rF (jU 1 [a0d,a0q,a0d,a2Q,a3W,a3b,a7t,a6K,a9Z] [d1p,c5E,c0q] [a1j,a0Q,a1f,a1d,a1i,a1S,a2J,a1G]))))))
def b5l:PT:=(lO ff c5N a0R (nD a6f (lO ff c5u a0R (nD b2N (.ite c5E rF (nD a1U (nD a2R (.both b5S b5D))))))))
def b5F:PT:=(lO ff b4b a0R (nD b2t (lO ff b4f a0R (nD b0f (.ite c0e rF (jU 1 [a0d,a0q,a0d,a2Q,a3W,a7t,a3b,a9Z,a6K] [d1p,c5A,c0e] [a1j,a0Q,a1f,a1d,a1S,a1i,a1G,a2J]))))))
def b5m:PT:=(lO ff b4f a0R (nD b2t (lO ff b4b a0R (nD b0f (.ite c0q rF (jU 1 [a0d,a0q,a0d,a2Q,a3W,a7t,a3b,a6K,a9Z] [d1p,c5A,c0q] [a1j,a0Q,a1f,a1d,a1S,a1i,a2J,a1G]))))))
def b5r:PT:=(lO ff c5u a0R (nD a6f (lO ff c5N a0R (nD b2N (.ite c5A rF (nD a1U (nD a2R (.both b5F b5m))))))))
def b5k:PT:=(lO ff d6r a0R (nD a7E (lO ff d5I a0R (nD b1d (.ite d1p rF (nD a1U (nD a2R (.both b5l b5r))))))))
def b5M:PT:=(lO ff b4b a0R (nD b2t (lO ff b4f a0R (nD b0f (.ite c0e rF (jU 1 [a0d,a0q,a0d,a3W,a2Q,a3b,a7t,a9Z,a6K] [d0h,c5E,c0e] [a1j,a0Q,a1d,a1f,a1i,a1S,a1G,a2J]))))))
def b5A:PT:=(lO ff b4f a0R (nD b2t (lO ff b4b a0R (nD b0f (.ite c0q rF (jU 1 [a0d,a0q,a0d,a3W,a2Q,a3b,a7t,a6K,a9Z] [d0h,c5E,c0q] [a1j,a0Q,a1d,a1f,a1i,a1S,a2J,a1G]))))))
def b5d:PT:=(lO ff c5N a0R (nD a6f (lO ff c5u a0R (nD b2N (.ite c5E rF (nD a1U (nD a2R (.both b5M b5A))))))))
def b4V:PT:=(lO ff b4b a0R (nD b2t (lO ff b4f a0R (nD b0f (.ite c0e rF (jU 1 [a0d,a0q,a0d,a3W,a2Q,a7t,a3b,a9Z,a6K] [d0h,c5A,c0e] [a1j,a0Q,a1d,a1f,a1S,a1i,a1G,a2J]))))))
def b4Z:PT:=(lO ff b4f a0R (nD b2t (lO ff b4b a0R (nD b0f (.ite c0q rF (jU 1 [a0d,a0q,a0d,a3W,a2Q,a7t,a3b,a6K,a9Z] [d0h,c5A,c0q] [a1j,a0Q,a1d,a1f,a1S,a1i,a2J,a1G]))))))
def b4W:PT:=(lO ff c5u a0R (nD a6f (lO ff c5N a0R (nD b2N (.ite c5A rF (nD a1U (nD a2R (.both b4V b4Z))))))))
def b5b:PT:=(lO ff d5I a0R (nD a7E (lO ff d6r a0R (nD b1d (.ite d0h rF (nD a1U (nD a2R (.both b5d b4W))))))))
def a6D:PT:=(nD a1p (.ite b6b (nD a1U (nD a2R (lO ff d5U a2W (lO ff (.ea 1 a0d 9 0) a2W (.ite (.not (.and (.eq a0k a0l) (.and (.eq a0f a0o) (.and (.eq a0g a0r) (.and (.eq a0p a0v) (.and (.eq a0t a0z) (.eq a0u a0D))))))) rF (nD a1U (nD a2R (.both b5k b5b)))))))) a4C))
def a6B:PT:=(nD a1U (lO ff d6r a0R (nD (.is 0 8) (.ite (.lt a0k (.slen 8)) (nD a1U (lO ff c5N a0R (nD (.is 0 9) (.ite (.lt a0k (.slen 9)) (nD a1U (lO ff b4b a0R (nD (.is 0 10) (.ite (.lt a0k (.slen 10)) (nD a1U (nD a2R (lO ff d6r a0R (nD (treeI a0k (.slen 11)) (lO ff (.ea 11 a0k 6 0) a2W (lO ff d5I a0R (nD (treeI a0k (.slen 12)) (lO ff (.ea 12 a0k 6 0) a2W (.ite (.not (.and (.eq a0r a0C) (.and (.eq a0v a0N) (.and (.eq a0z a0T) (.and (.eq a0D a0X) (.and (.eq a0y a1m) (.eq a0B a1b))))))) rF (nD a1U (nD a2R (lO ff c5N a0R (nD (treeI a0k (.slen 13)) (lO ff (.ea 13 a0k 6 0) a2W (lO ff c5u a0R (nD (treeI a0k (.slen 14)) (lO ff (.ea 14 a0k 6 0) a2W (.ite (.not (.and (.eq a1B a4c) (.and (.eq a1F b9f) (.and (.eq a1X (.a 29)) (.and (.eq a2A (.a 30)) (.and (.eq a4D (.a 31)) (.eq a8h (.a 32)))))))) rF (nD a1U (nD a2R (lO ff b4b a0R (nD (treeI a0k (.slen 15)) (lO ff (.ea 15 a0k 1 0) b0j (lO ff b4f a0R (nD (treeI a0k (.slen 16)) (lO ff (.ea 16 a0k 1 0) b0j (.ite (.not (.or (.and (.a 3) (.a 4)) (.and (.not (.a 3)) d5V))) rF (nD a1u (jU 1 [a0d,a1M,a0f,a0g,a0p,a0t,a0u,a0l,a0o] [a3E,a5W,(.a 2)] e5P))))))))))))))))))))))))))))) d6d)))) d6d)))) d6d))))
def a4b:Qq:=⟨[(.sh (.one .val)),(.sh (.one .val))],b3z,[a6D,a6B],nO,nO⟩
def c8a:List Cfg:=[{todo:=[(.code (tfR 6 52)),(.inLoop (tfR 6 52)),(.inBlock 0),(.code [tt,tt,tt])],sl:=[(.va 0),(.va 1),.undef,.undef,(.junk 0),(jA 0)]++jkR 1 153,H:=[],ni:=1,nb:=0,nv:=2,nj:=154},
 {todo:=[(.code (tfR 13 6732)),(.inLoop (tfR 13 6732)),(.inBlock 2),(.inBlock 1),(.code (tfR 8 211)),(.inLoop (tfR 6 52)),(.inBlock 0),(.code [tt,tt,tt])],sl:=[(.va 0),(.va 1),.undef,.undef,(.junk 0),(jA 0),(jA 1)]++jkR 1 23++[(.va 0),(jA 0),(.ea 0 (.a 2) 9 0),(.ea 0 (.a 2) 9 6),(.va 2),(jA 3),(.va 1),(jA 0),(.ea 1 (.a 2) 9 0),(.ea 1 (.a 2) 9 6),(.va 3),(jA 4),(.bool (.a 0)),(.junk 24),(.junk 25),(.va 0),(jA 0),(.ea 0 (.a 2) 9 0),(.ea 0 (.a 2) 9 7),(.va 4),(jA 5),(.va 1),(jA 0),(.ea 1 (.a 2) 9 0),(.ea 1 (.a 2) 9 7),(.va 5),(jA 6),(.bool (.a 1)),(.junk 26),(.junk 27),(.va 0),(jA 0),(.ea 0 (.a 2) 9 0),(.ea 0 (.a 2) 9 8),(.va 6),(jA 7),(.va 1),(jA 0),(.ea 1 (.a 2) 9 0),(.ea 1 (.a 2) 9 8),(.va 7),(jA 8),(.bool (.a 2))]++jkR 28 86,H:=[],ni:=9,nb:=3,nv:=8,nj:=114}]
def d0S:=okg 33 a4b c8a func33 call33 tt ff [(tfR 6 52),(tfR 13 6732)]
def a3v:PT:=(.ite (.lt a0v a0q) d6q (nD b0f (.ite (.le a6K a0v) d6q (nD (treeI a0v a6K) (lO ff (.ea 7 a0v 1 0) b0j (.ite a5W d1z (nD b0f (.ite (.eq a6K a0q) (.app nO (.lit []) 1 e6F) (.appM .nilS (.va 7) 1 4 e6F)))))))))
def a9l:Qq:=⟨[(.sh (.agg [.val,.val,.val,.val,jD,jD,jD,jD,.val,jD,jD,jD,jD,jD,jD,.val,.val,.val,.bool])),(.sh (.one jD))],a3v,[],nO,nO⟩
def c3U:=okg 41 a9l [] func41 call41 tt ff [] [] [] [] [99999] (live:=tt)
def b2e:PT:=(nD a1p (.ite c0n (nD c0n (lO ff (.ea 0 a0q 5 1) a0K (nD a1p (.ite c3b (nD c3b (lO ff (.ea 0 a1n 5 1) a0K (nD a1p (.ite c2k (nD c2k (lO ff (.ea 0 a2Z 5 1) a0K (nD a1p (.ite c3e (nD c3e (lO ff (.ea 0 a2I 5 1) a0K (nD a1p (.ite c2D (nD c2D (lO ff (.ea 0 a2C 5 1) a0K (nD a1p (.ite c2K (nD c2K (lO ff (.ea 0 a3w 5 1) a0K e6V)) e7h)))) e7t)))) e7w)))) e6g)))) e6S)))) e1A))
def b1Z:Qq:=⟨[(.sh (.one .val))],b2e,[],nO,nO⟩
def c7X:=okg 49 b1Z [] func49 call49 ff ff
def b9y:PT:=e6v
def a9x:PT:=(.ite a8b (nD a3T (lO ff d9m d0U (.ite d0a (.ite d1F (jU 0 [a0d,a4P,a0f,a0g,a0p,a0t,a0u,a0o] [] a0J) (.ite d0i (jU 0 [a0d,a3w,a0f,a0g,a0p,a0t,a0o,a0l] [] a0J) (.ite d0c (jU 0 [a0d,a2C,a0f,a0g,a0p,a0o,a0u,a0l] [] a0J) (.ite d1O (jU 0 [a0d,a2I,a0f,a0g,a0o,a0t,a0u,a0l] [] a0J) (.ite c5z (jU 0 [a0d,a2Z,a0f,a0o,a0p,a0t,a0u,a0l] [] a0J) (.ite b4j (jU 0 [a0d,a1n,a0o,a0g,a0p,a0t,a0u,a0l] [] a0J) .stuck)))))) (nD a1u (jU 0 d1x [] a0J))))) e0l)
def a4M:Qq:=⟨[(.sh (.one .val))],b9y,[a9x],nO,nO⟩
def d4f:List Cfg:=[{todo:=[(.code (tfR 6 52)),(.inLoop (tfR 6 52)),(.inBlock 0),(.code [tt,tt,tt])],sl:=[(.junk 0),.undef,(.ptr 0 0),(.ptr 1 0),(.junk 1),(.junk 2),(.va 0),(jA 0),(jA 1)]++jkR 3 11++[.undef],H:=[(.cells a1w 51 ff),(.cells b0a 51 ff)],ni:=8,nb:=0,nv:=1,nj:=14}]
def d6U:=okg 57 a4M d4f func57 call57 ff ff [(tfR 6 52)]
def b8D:PT:=(nD a7E (.ite (.lt (.l 16) a2Q) b4o (nD a7E (jU 0 [a2Q,a0q] [] [a1f,a1j,a0Q,a1d]))))
def a8D:PT:=(.ite a8b (nD a3T (lO ff (.ea 0 a0k 3 0) b3V (.ite (.lt a0f c3N) a6h (nD a7E (.ite (.le a2Q a0f) a6h (.ite b6p a1e (.ite c3n a1e (.ite b6f a1e (.ite (.lt (.l 24) a0p) a1e (.cut 0 nO (sm (.a 1)) 3 (nD a6f (jU 1 [a0d,a0k,a0f,a2Q,a0g,a0p,a3b,a0q] [(.le a2Q a0f),c3n,b6f,(.lt (.l 24) a0p)] [a1j,a1f,a1i,a0Q,a1d])))))))))))) a3z)
def a8J:PT:=(.ite (.lt a0l a0u) (nD (treeI a0l a2Q) (lO ff (.ea 2 a0l 3 0) b3V (.ite (.eq a0o a0f) (.ite (.eq a0r a0p) c0g e6K) e6K))) (nD a1u (jU 0 b6o [] [a1j,a1d,a0Q,a1i])))
def a3S:Qq:=⟨[(.sh (.agg [.val,.val,.val,.val]))],b8D,[a8D,a8J],nO,nO⟩
def d2W:List Cfg:=[{todo:=[(.code (tfR 6 52)),(.inLoop (tfR 6 52)),(.inBlock 0),(.code [tt,tt,tt])],sl:=[(.junk 0),(.ptr 0 0),(.junk 1),(.junk 2),(.junk 3),.undef]++jkR 4 6++[(.va 0),(jA 0),(jA 1)]++jkR 10 56,H:=[(.cells [a0Q,a1f,a1j,a1d] 27 ff)],ni:=2,nb:=0,nv:=4,nj:=66},
 {todo:=[(.code (tfR 16 54076)),(.inLoop (tfR 16 54076)),(.inBlock 2),(.inBlock 1),(.code (tfR 9 423)),(.inLoop (tfR 6 52)),(.inBlock 0),(.code [tt,tt,tt])],sl:=[(.junk 0),(.ptr 0 0),(.junk 1),(.junk 2),(.ptr 1 0),.undef]++jkR 3 6++[(.va 0),(jA 0),(jA 1)]++jkR 9 8++[(.ptr 1 0),(jA 2),(.ptr 0 1),(.va 1),(jA 3),(.bool (.a 0))]++jkR 17 5++[(.ptr 1 1),(jA 4),(.bool (.a 1)),(.junk 22),(.junk 23),(.ptr 1 2),(jA 5),(.bool (.a 2)),(.junk 24),(.junk 25),(.ptr 1 2),(jA 5),(.bool (.a 3))]++jkR 26 4++[(.va 2),(jA 6),(jA 7)]++jkR 30 17,H:=[(.cells [a1d,a0Q,a1j,a1i] 27 ff),(.cells d6a 89 ff)],ni:=8,nb:=4,nv:=5,nj:=47}]
def d5o:=okg 65 a3S d2W func65 call65 ff ff [(tfR 6 52),(tfR 16 54076)]
def b2y:PT:=(.ite d5J e0P (.ite (.lt a2I a0d) e0P (nD a1p (nD a3Z (.ite e1i e7l (nD a1p (.ite d6A e7l (.app nO (.lit [[(jA 1),(jA 2),(jA 3),(jA 4),(jA 5),(jA 6)]]) 6 (.app (sm 2) (.va 0) 6 (.app (sm 3) (.va 1) 6 (jU 0 [a0d,a0q,a0k,a0f,a0g,a0p,a0t,a0u] [] [a1j,a0Q,a1i])))))))))))
def a6l:PT:=(nD a7E (.ite (.lt a0k a2Q) (nD c7m (lO ff (.ea 2 a0k 6 0) a2W (cA 104 [b2s] [] a0W (.ite c2h e0P (nD a1u (jU 0 d1x [] a4L)))))) (nD a1p (.ite d0p (.app nO (.lit []) 6 (jU 1 e0w [] [a0Q,a1d])) (.appM .nilS (.va 0) 6 51 (jU 1 e0w [] [a0Q,a1d]))))))
def a6p:PT:=(nD a3Z (.ite (.lt a0k a0P) (.ite b3X (nD a3T (lO ff c2f a2W (nD c7d (.storeM (.ea 1 a0k 6 0) b9U d5E)))) (.ite b4g (nD a3T (lO ff c2f a2W (cA 109 [c2G,a0Q,a1P,b2s] [] a1A (.ite a4h (nD a3T (lO ff c2f a2W e5I)) d5E)))) (.ite b6n (nD a3T (lO ff c2f a2W (cA 110 [c2G,a0Q,a1P,b2s] [] a2n e5I))) d5E))) (.ret ff (.tup [a0Q,a0O]) [])))
def a1I:Qq:=⟨[(.sh (.one jD)),(.sh (.agg [jD,jD,jD,jD,jD,jD])),(.sh (.one .val)),(.sh (.one .val))],b2y,[a6l,a6p],nO,nO⟩
def c6S:List Cfg:=[{todo:=[(.code (tfR 9 500)),(.inLoop (tfR 9 500)),(.inBlock 0),(.code (tfR 6 63))],sl:=[(jA 0),(.junk 0),(.va 0),(.va 1),.undef,(.ptr 0 0),.undef,.undef,(.junk 1),(.junk 2),(.va 2),(jA 1),.undef,.undef]++jkR 3 35++udR 51,H:=[(.cells b0a 51 ff),(.row 2 51 6)],ni:=8,nb:=0,nv:=3,nj:=38},
 {todo:=[(.code (tfR 11 2036)),(.inLoop (tfR 11 2036)),(.inBlock 2),(.code (tfR 8 255))],sl:=[(jA 0),(.junk 0),(.junk 1),(.va 0),.undef,(.ptr 0 0),.undef,.undef]++jkR 2 4++[(.va 1),(jA 1)]++jkR 6 85++[.undef],H:=[(.cells b0a 51 ff)],ni:=8,nb:=0,nv:=2,nj:=91}]
def c9x:=okg 73 a1I c6S func73 call73 tt ff [(tfR 9 500),(tfR 11 2036)] [] [] [] [99999] (live:=tt)
def c4j:PT:=e5Y
def c4l:Qq:=⟨[(.sh (.agg [jD,jD,jD,jD,jD,jD])),(.sh (.agg [jD,jD,jD,jD,jD,jD]))],c4j,[],nO,nO⟩
def e1D:=okg 81 c4l [] func81 call81 ff ff
def c2P:PT :=
 (nD (.is 3 0)
 (.ite (.not (.sis 0 []))
 (nD (.is 3 0)
 (.ite (.le (.stl 0) (.l 12))
  (nD (.is 3 0)
  (nD (.lt (.l 0) (.stl 0))
  (nD (.and (.le (.l (-2147483648)) (.sat 0 (.l 0))) (.le (.sat 0 (.l 0)) (.l 2147483647)))
  (cA 124 [(.int .i32 (.sat 0 (.l 0)))] [] [(.one .bool)]
  (.ite (.a 0)
  (cA 125 [(.va 0),(jE 0),(.fn 126 0 [])] [] [(.one .val)]
  (nD (.is 3 1)
  (nD (.is 3 0)
  (.ret ff (.bool (.seq 1 0)) []))))
  rF)))))
  rF))
 rF))
def c2z:Qq:=⟨[(.sh (.one .val))],c2P,[],nO,nO⟩
def d9f:=okg 97 c2z [] func97 call97 ff ff
def b1F:PT:=e6o
def b2b:Qq:=⟨[(.sh (.one .val))],b1F,[],nO,nO⟩
def c7C:=okg 105 b2b [] func105 call105 ff ff
def b2g:PT:=e6w
def b2c:Qq:=⟨[(.sh (.one (.int .u8)))],b2g,[],nO,nO⟩
def c7M:=okg 113 b2c [] func113 call113 ff ff
def b9F:PT:=(cA 134 a0J [] a1A (.ite a4h (.ret ff (.tup [(.agg d6y),a3H]) []) (cA 135 a0J [] [(.one .val),(.one .val)] (nD a7E (.ite (.not (.nil 2)) (.ret ff (.tup [(.agg [a1f,.nilS]),a3H]) []) (nD a1p (jU 0 [a0q,a2H,a0q] [] a5J)))))))
def c1w:PT:=(cA 81 [b6m,c5T] [] a0W (lO ff (.ea 1 a0f 1 0) a0K (nD (treeB (.sub a0C a0N)) (nD a8l (jU 0 [(.mx a0d (.sub a0C a0N)),a0k,(jP 2)] [] a5J)))))
def c1b:PT:=(lO ff (.ea 1 a0f 1 0) a0K (cA 81 [b6m,c5T] [] a0W (nD (treeB (.sub a0N a0C)) (nD a8l (jU 0 [(.mx a0d (.sub a0N a0C)),a0k,(jP 2)] [] a5J)))))
def a7L:PT:=(.ite b6k (nD b6s (lO ff (.ea 0 a0f 12 0) c3X (nD c2l (.both c1w c1b)))) (nD a1p (jU 1 [a0d,a2H,a0q] [] [a0Q,a1j])))
def a7I:PT:=(.ite b6k (nD c2l (lO ff (.ea 1 a0f 12 0) c3X (.ite (.and c5S (.and c5O (.and c5w (.and d1U (.and b0h b4a))))) (nD b6s (lO ff (.ea 0 a0f 1 0) a0K (nD (treeB (.sub a0q a0C)) (nD a8l (jU 1 [(.sub a0q a0C),a0k,(jP 2)] [] a5J))))) (nD a8l (jU 1 c5K [] a5J))))) (nD a1p (jU 2 [a0d,a2H,a0q] [] a0J)))
def a9v:PT:=(.ite b6k (nD b6s (lO ff (.ea 0 a0f 1 0) a0K (nD (treeB (.add a0g a0d)) (nD b6s (.storeM (.ea 0 a0f 1 0) [(.int .i64 (.add a0g a0d))] (nD a8l (jU 2 c5K [] a0J))))))) (.ret ff (.tup [(.agg [.nilS,a1j]),b1e]) []))
def a1q:Qq:=⟨[(.sh (.one .val))],b9F,[a7L,a7I,a9v],nO,nO⟩
def d3S:List Cfg:=[{todo:=[(.code (tfR 9 500)),(.inLoop (tfR 9 500)),(.inBlock 0),(.code (tfR 6 63))],sl:=[(.va 0),.undef,(.ptr 0 0),(.junk 0),(.va 1),(.junk 1),(jA 0),(.junk 2),(.junk 3),.undef,.undef,.undef,(.junk 4),(.junk 5),(.junk 6),.undef]++jkR 7 7++[.undef,.undef,(.va 0),(jA 1),(jA 2)]++jkR 14 17++udR 32,H:=[(.cells d6y 163 ff)],ni:=3,nb:=0,nv:=2,nj:=31},
 {todo:=[(.code (tfR 10 1012)),(.inLoop (tfR 10 1012)),(.inBlock 2),(.code (tfR 7 127))],sl:=[(.junk 0),.undef,(.ptr 0 0),(.junk 1),(.va 0),(.junk 2),(jA 0)]++jkR 3 4++[.undef,(.junk 7),(.junk 8),(.junk 9),.undef]++jkR 10 7++[.undef,.undef]++jkR 17 20++[(.va 1),(jA 1),(jA 2)]++jkR 37 14++udR 15,H:=[(.cells d6y 163 ff)],ni:=3,nb:=0,nv:=2,nj:=51},
 {todo:=[(.code (tfR 11 2036)),(.inLoop (tfR 11 2036)),(.inBlock 4),(.code (tfR 8 255))],sl:=[(.junk 0),.undef,(.ptr 0 0),(.junk 1),(.va 0),(.junk 2),(jA 0)]++jkR 3 8++[.undef]++jkR 11 7++[.undef,.undef]++jkR 18 38++[(jA 1),(jA 2)]++jkR 56 10++[.undef,.undef],H:=[(.cells d6y 163 ff)],ni:=3,nb:=0,nv:=1,nj:=66}]
def d7h:=okg 121 a1q d3S func121 call121 tt ff [(tfR 9 500),(tfR 10 1012),(tfR 11 2036)]
def d3C:PT:=(jU 0 [a0d] [] [])
def d1v:PT:=.stuck
def c0F:Qq:=⟨[(.sh (.one (.int .u8)))],d3C,[d1v],nO,nO⟩
def c7T:List Cfg:=[{todo:=[(.code (tfR 6 52)),(.inLoop (tfR 6 52)),(.inBlock 0),(.code [tt,tt,tt])],sl:=[(.int .u8 (.a 0)),.undef,(.junk 0),(.str [123,125,40,41,58,44,64,43,45,61]),(jE 0)]++udR 11,H:=[],ni:=1,nb:=0,nv:=0,nj:=1}]
def d1t:=okg 129 c0F c7T func129 call129 ff ff [(tfR 6 52)]
def c4A:PT:=e6s
def c3Z:Qq:=⟨[(.sh (.one (.int .i32)))],c4A,[],nO,nO⟩
def e0E:=okg 137 c3Z [] func137 call137 ff ff
def b9d:PT:=e5J
def b9q:PT:=e6B
def b9j:PT:=(.mkM a0P a1w 51 6 48 (.both b9d b9q))
def b8S:PT:=e6W
def b9p:PT:=e7k
def b8W:PT:=(.mkM a0P a1h 4 1 1 (.both b8S b9p))
def b9h:PT:=e8o
def b8U:PT:=e8t
def b9o:PT:=(.mkM a0P a1h 4 1 1 (.both b9h b8U))
def b6K:PT:=(.both b8W b9o)
def b7u:PT:=(cA 32 a0J [] a2n (.both b9j b6K))
def b7x:PT:=e5J
def b7Q:PT:=e6B
def b7C:PT:=(cA 32 a0J [] a2n (.both b7x b7Q))
def b7G:PT:=(cA 32 a0J [] a2n (.mkM a0P a1h 4 1 1 e2e))
def b8r:PT:=(.mkM a0P a1h 4 1 1 (cA 32 a0J [] a2n e2e))
def b7i:PT:=(.mkM a0P a1h 4 1 1 (.both b7G b8r))
def b7X:PT:=(cA 32 a0J [] a2n (.mkM a0P a1h 4 1 1 e0q))
def b7J:PT:=(.mkM a0P a1h 4 1 1 (cA 32 a0J [] a2n e0q))
def b6L:PT:=(.mkM a0P a1h 4 1 1 (.both b7X b7J))
def b6Q:PT:=(.both b7i b6L)
def b7g:PT:=(.mkM a0P a1w 51 6 48 (.both b7C b6Q))
def b7k:PT:=e6W
def b6N:PT:=e7k
def b6J:PT:=(cA 32 a0J [] a2n (.both b7k b6N))
def b7r:PT:=(cA 32 a0J [] a2n (.mkM a0P a1h 4 1 1 e0G))
def b6R:PT:=(.mkM a0P a1h 4 1 1 (cA 32 a0J [] a2n e0G))
def b7P:PT:=(.mkM a0P a1w 51 6 48 (.both b7r b6R))
def b7z:PT:=(cA 32 a0J [] a2n (.mkM a0P a1w 51 6 48 e0s))
def b6C:PT:=(.mkM a0P a1w 51 6 48 (cA 32 a0J [] a2n e0s))
def b7n:PT:=(.mkM a0P a1h 4 1 1 (.both b7z b6C))
def b7Z:PT:=(.both b7P b7n)
def b6I:PT:=(.mkM a0P a1h 4 1 1 (.both b6J b7Z))
def b7F:PT:=e8o
def b7T:PT:=e8t
def b7Y:PT:=(cA 32 a0J [] a2n (.both b7F b7T))
def b8b:PT:=(cA 32 a0J [] a2n (.mkM a0P a1h 4 1 1 e1J))
def b7V:PT:=(.mkM a0P a1h 4 1 1 (cA 32 a0J [] a2n e1J))
def b8l:PT:=(.mkM a0P a1w 51 6 48 (.both b8b b7V))
def b7o:PT:=(cA 32 a0J [] a2n (.mkM a0P a1w 51 6 48 e2C))
def b8n:PT:=(.mkM a0P a1w 51 6 48 (cA 32 a0J [] a2n e2C))
def b7K:PT:=(.mkM a0P a1h 4 1 1 (.both b7o b8n))
def b6E:PT:=(.both b8l b7K)
def b8v:PT:=(.mkM a0P a1h 4 1 1 (.both b7Y b6E))
def b7h:PT:=(.both b6I b8v)
def b6W:PT:=(.both b7g b7h)
def b7e:PT:=e8y
def b6H:PT:=e7o
def b8o:PT:=(.mkM a0P a1w 51 6 48 (.both b7e b6H))
def b6P:PT:=e8j
def b7c:PT:=e7H
def b6Z:PT:=(.mkM a0P a1h 4 1 1 (.both b6P b7c))
def b7d:PT:=e7f
def b6G:PT:=e6N
def b7p:PT:=(.mkM a0P a1h 4 1 1 (.both b7d b6G))
def b7t:PT:=(.both b6Z b7p)
def b7U:PT:=(cA 32 a0J [] a2n (.both b8o b7t))
def b7B:PT:=e8y
def b6V:PT:=e7o
def b7D:PT:=(cA 32 a0J [] a2n (.both b7B b6V))
def b6A:PT:=(cA 32 a0J [] a2n (.mkM a0P a1h 4 1 1 e0X))
def b8m:PT:=(.mkM a0P a1h 4 1 1 (cA 32 a0J [] a2n e0X))
def b8w:PT:=(.mkM a0P a1h 4 1 1 (.both b6A b8m))
def b7y:PT:=(cA 32 a0J [] a2n (.mkM a0P a1h 4 1 1 e1W))
def b7s:PT:=(.mkM a0P a1h 4 1 1 (cA 32 a0J [] a2n e1W))
def b6F:PT:=(.mkM a0P a1h 4 1 1 (.both b7y b7s))
def b7H:PT:=(.both b8w b6F)
def b7M:PT:=(.mkM a0P a1w 51 6 48 (.both b7D b7H))
def b6M:PT:=e8j
def b8p:PT:=e7H
def b7A:PT:=(cA 32 a0J [] a2n (.both b6M b8p))
def b8a:PT:=(cA 32 a0J [] a2n (.mkM a0P a1h 4 1 1 e1Q))
def b6B:PT:=(.mkM a0P a1h 4 1 1 (cA 32 a0J [] a2n e1Q))
def b8c:PT:=(.mkM a0P a1w 51 6 48 (.both b8a b6B))
def b7E:PT:=(cA 32 a0J [] a2n (.mkM a0P a1w 51 6 48 e2m))
def b7b:PT:=(.mkM a0P a1w 51 6 48 (cA 32 a0J [] a2n e2m))
def b7O:PT:=(.mkM a0P a1h 4 1 1 (.both b7E b7b))
def b7m:PT:=(.both b8c b7O)
def b8g:PT:=(.mkM a0P a1h 4 1 1 (.both b7A b7m))
def b7L:PT:=e7f
def b6S:PT:=e6N
def b8f:PT:=(cA 32 a0J [] a2n (.both b7L b6S))
def b7W:PT:=(cA 32 a0J [] a2n (.mkM a0P a1h 4 1 1 e1S))
def b6U:PT:=(.mkM a0P a1h 4 1 1 (cA 32 a0J [] a2n e1S))
def b7w:PT:=(.mkM a0P a1w 51 6 48 (.both b7W b6U))
def b6O:PT:=(cA 32 a0J [] a2n (.mkM a0P a1w 51 6 48 e0V))
def b7R:PT:=(.mkM a0P a1w 51 6 48 (cA 32 a0J [] a2n e0V))
def b7f:PT:=(.mkM a0P a1h 4 1 1 (.both b6O b7R))
def b8d:PT:=(.both b7w b7f)
def b6T:PT:=(.mkM a0P a1h 4 1 1 (.both b8f b8d))
def b8u:PT:=(.both b8g b6T)
def b7N:PT:=(.both b7M b8u)
def a5g:PT:=(cA 18 [a3h] [] a0W (.ite c0c (cA 17 d0g [] a0W (.ite (.not (.eq a0t a0q)) (.ret ff (.tup [(.agg b4m),a2u]) []) (nD a3Z (.both b7u b6W)))) (.ite (.not c0c) (.ret ff (.tup [(.agg b4m),a2Y]) []) (nD a3Z (.both b7U b7N)))))
def b4x:Qq:=⟨[(.sh (.agg [.val,.val,.val,.val])),(.sh (.agg [jD,jD,jD,jD]))],a5g,[],nO,nO⟩
def d3A:=okg 10 b4x [] func10 call10 ff ff
def b2U:PT:=(cA 43 a0J [] a0W (.ite b4k (cA 44 [a0Q] [] a0W (.ite (.not b4j) e2l e6Z)) (.ite c5Q d6o e6Z)))
def a6n:PT:=(nD a7E (.ite (.lt a0d a2Q) (nD (treeI a0d a2Q) (lO ff (.ea 2 a0d 3 0) b3V (.ite (.lt a0k c3N) a6h (nD a3Z (.ite (.le a0P a0k) a6h (.ite c0j a1e (.ite c0o a1e (.ite b6p a1e (.ite (.lt (.l 24) a0g) a1e (jU 1 [a0d,a0q,a0k,a0P,a0f,a0g] [(.le a0P a0k),c0o,b6p,(.lt (.l 24) a0g)] e1h)))))))))) (nD b1d (.ite (.lt a4P a3W) b4o (jU 2 [a0q] [] a0E)))))
def a6m:PT:=(.ite a8b (nD c7m (lO tt (.ea 2 a0k 3 0) a0K (.ite (.eq a0u a0f) (nD c7m (lO tt (.ea 2 a0k 3 1) a0K (.ite (.eq a0l a0p) c0g e7L))) e7L))) (nD a2c (jU 0 [a1R] [] e1h)))
def a6r:PT:=(nD b1d (.ite (.lt a0d a3W) (nD (treeI a0d a3W) (lO ff (.ea 3 a0d 3 0) b3V (.ite c5C a6h (nD a1p (.ite (.le a2H a0k) a6h (.ite (.lt a0f a1n) a1e (.ite c0o a1e (.ite d6D a1e (nD a3T (lO tt (.ea 0 a0k 5 1) a0K (.ite (.lt a0p a0g) a1e (jU 3 [a0d,a0q,a0k,a2H,a0f,a0g,a0p] [(.le a2H a0k),c0o,d6D,(.lt a0p a0g)] a0E)))))))))))) a3z))
def a6w:PT:=(.ite a8b (nD (treeI a0k a3W) (lO tt (.ea 3 a0k 3 0) a0K (.ite (.eq a0l a0f) c0g (nD a1u (jU 3 [a0d,a1M,a0f,a0g,a0p,a0t,a0u] d6t a0E))))) (nD a2c (jU 2 [a1R] [] a0E)))
def a1y:Qq:=⟨[(.sh (.agg [.val,.val,.val,.val]))],b2U,[a6n,a6m,a6r,a6w],nO,nO⟩
def c6X:List Cfg:=[{todo:=[(.code (tfR 9 500)),(.inLoop (tfR 9 500)),(.inBlock 0),(.code (tfR 6 63))],sl:=[(.junk 0),(.ptr 0 0),(.junk 1),(.junk 2),(jA 0),(.junk 3),(.junk 4),.undef,.undef,.undef]++jkR 5 10++[.undef]++jkR 15 70++udR 66,H:=[(.cells a0E 27 ff)],ni:=1,nb:=0,nv:=4,nj:=85},
 {todo:=[(.code (tfR 18 256316)),(.inLoop (tfR 18 256316)),(.inBlock 2),(.inBlock 1),(.code (tfR 11 2003)),(.inLoop (tfR 9 500)),(.inBlock 0),(.code (tfR 6 63))],sl:=[(.junk 0),(.ptr 0 0),(.junk 1),(.junk 2),(jA 0),(.ptr 1 0),(jA 1),.undef,.undef,.undef]++jkR 3 10++[.undef]++jkR 13 20++[(.ptr 1 0),(jA 2),(.ptr 0 1),(.va 0),(jA 3),(.bool (.a 0))]++jkR 33 5++[(.ptr 1 1),(jA 4),(.bool (.a 1)),(.junk 38),(.junk 39),(.ptr 1 2),(jA 5),(.bool (.a 2)),(.junk 40),(.junk 41),(.ptr 1 2),(jA 5),(.bool (.a 3))]++jkR 42 26++udR 66,H:=[(.cells e1h 27 ff),(.cells d6a 89 ff)],ni:=6,nb:=4,nv:=4,nj:=68},
 {todo:=[(.code (tfR 11 2036)),(.inLoop (tfR 11 2036)),(.inBlock 4),(.code (tfR 8 255))],sl:=[(.junk 0),(.ptr 0 0)]++jkR 1 5++[(jA 0)]++jkR 6 12++[.undef]++jkR 18 136,H:=[(.cells a0E 27 ff)],ni:=1,nb:=0,nv:=4,nj:=154},
 {todo:=[(.code (tfR 20 1042748)),(.inLoop (tfR 20 1042748)),(.inBlock 6),(.inBlock 5),(.code (tfR 13 8147)),(.inLoop (tfR 11 2036)),(.inBlock 4),(.code (tfR 8 255))],sl:=[(.junk 0),(.ptr 0 0)]++jkR 1 5++[(jA 0),(.ptr 1 0),(jA 1)]++jkR 6 10++[.undef]++jkR 16 90++[(.ptr 1 0),(jA 2),(.ptr 0 0),(.va 0),(jA 3),(.bool (.a 0))]++jkR 106 5++[(.ptr 1 1),(jA 4),(.bool (.a 1)),(.junk 111),(.junk 112),(.ptr 1 2),(jA 5),(.bool (.a 2)),(.junk 113),(.junk 114),(.ptr 1 2),(jA 5),(.ptr 0 0),(.va 0),(.ptr 1 0),(jA 2),(.ea 0 (.a 2) 5 0),(.ea 0 (.a 2) 5 1),(jA 6),(.bool (.a 3))]++jkR 115 15,H:=[(.cells a0E 27 ff),(.cells d6a 91 ff)],ni:=7,nb:=4,nv:=4,nj:=130}]
def c9Y:=okg 18 a1y c6X func18 call18 ff ff [(tfR 9 500),(tfR 18 256316),(tfR 11 2036),(tfR 20 1042748)]
def a8W:PT:=(nD b4c (.ite a9Y d1m (cA 53 c1x [] a1A (.ite a4h d1m (nD a1k (lO ff a5K a0R (nD a3Z (jU 0 [a0d,a0P,a0q] [] [.nilS,a0Q]))))))))
def a6q:PT:=(.ite b6k (nD c2l (lO ff (.ea 1 a0f 9 0) e1F (nD (treeI a0d a2Q) (lO ff (.ea 2 a0d 6 0) a2W (.app nO (.lit [[(jA 3),(jA 4),(jA 5),(jA 6),(jA 7),(jA 8),(jA 9),(jA 10),(jA 11),(jA 12),(jA 13),(jA 14)]]) 12 (.app (sm 0) (.va 5) 12 (nD a8l (jU 0 c5K [] [a1G,a0Q])))))))) d5B)
def a4q:Qq:=⟨[(.sh (.one .val)),(.sh (.one jD))],a8W,[a6q],nO,nO⟩
def c6y:List Cfg:=[{todo:=[(.code (tfR 7 116)),(.inLoop (tfR 7 116)),(.inBlock 0),(.code [tt,tt,tt,tt])],sl:=[(.junk 0),(jA 0),.undef,.undef,(.junk 1),(.va 0),.undef]++jkR 2 12++[(.va 1),(jA 1),(jA 2)]++jkR 14 15++[.undef],H:=[(.row 0 75 12)],ni:=3,nb:=0,nv:=2,nj:=29}]
def c9h:=okg 26 a4q c6y func26 call26 tt ff [(tfR 7 116)]
def b1z:PT:=(cA 20 a0J [] a3x (jU 0 [a0q] [] [.nilS,a0Q]))
def a5Y:PT:=(nD a3Z (.ite (.lt a0d a0P) (nD a2R (nD a2R (nD a2R (nD a2R (lO ff (.ea 1 a0d 9 0) a2W (lO ff d5I a0R (lO ff c5u a0R (lO ff b4f a0R (.app nO (.lit [[(jA 1),(jA 2),(jA 3),(jA 4),(jA 5),(jA 6),(.va 2),(.va 3),(.va 4)]]) 9 (.app (sm 0) (.va 5) 9 (nD a2c (jU 0 [a1R] [] [a1G,a0Q])))))))))))) (.ret tt a1j [])))
def a4S:Qq:=⟨[(.sh (.one .val))],b1z,[a5Y],nO,nO⟩
def c4U:List Cfg:=[{todo:=[(.code (tfR 7 116)),(.inLoop (tfR 7 116)),(.inBlock 0),(.code [tt,tt,tt,tt])],sl:=[(.junk 0),.undef,(.junk 1),(.va 0),(.va 1),(jA 0)]++jkR 2 32++[.undef],H:=[(.row 0 121 9)],ni:=1,nb:=0,nv:=2,nj:=34}]
def c7v:=okg 34 a4S c4U func34 call34 tt tt [(tfR 7 116)]
def a2S:PT:=(.ite (.lt a0v a0q) e0e (nD a6f (.ite (.lt a3b a0v) e0e (nD a6f (.ite (.eq a0v a3b) (.ite a3E e0e e6y) e6y)))))
def a8G:Qq:=⟨[(.sh (.agg [.val,.val,.val,.val,jD,jD,jD,jD,.val,jD,jD,jD,jD,jD,jD,.val,.val,.val,.bool])),(.sh (.one jD))],a2S,[],nO,nO⟩
def c2n:=okg 42 a8G [] func42 call42 tt ff (live:=tt)
def a7b:PT:=(cA 43 a0J [] a0W (.ite c0i e7T (cA 47 [b2L] [] a1A (.ite a4h e7T (jU 0 [a0d,a0q,a0q,a0q,a0q,a0k,a0f,a0g,a0p,a0t,a0u] [] a0J)))))
def a3r:PT:=(nD a1p (.ite (.lt a0p a2H) (jU 1 [a0d,a0k,a0f,a0g,a0p,a0q,a0t,a0u,a0l,a0o,a0r,a0v] [] a0J) (.ret ff (.tup [a1P,a1N,a1E]) [])))
def a6L:PT:=(.ite (.eq a0p a3w) (.ite (.lt a0t a0z) (nD c2K (lO ff (.ea 0 a3w 5 3) a0K (nD c5H (nD c2K (lO ff (.ea 0 a3w 5 2) a0K (nD c5G (nD c2K (lO ff (.ea 0 a3w 5 4) a0K (.ite c5U (nD b9Y (nD b0c (jU 1 [a0d,b0e,b0k,(jP 3),a3w,a7N,a0u,a0l,a0o,a0r,a0v,a0z] [] a0J))) (nD b0c (jU 1 [a0d,b0e,b0k,a0g,a3w,a7N,a0u,a0l,a0o,a0r,a0v,a0z] [] a0J))))))))))) (jU 0 [a0d,a0k,a0f,a0g,a4P,a0u,a0l,a0o,a0r,a0v,a0z] [] a0J)) (.ite (.eq a0p a2C) (.ite (.lt a0t a0v) (nD c2D (lO ff (.ea 0 a2C 5 3) a0K (nD c5H (nD c2D (lO ff (.ea 0 a2C 5 2) a0K (nD c5G (nD c2D (lO ff (.ea 0 a2C 5 4) a0K (.ite c5U (nD b9Y (nD b0c (jU 1 [a0d,b0e,b0k,(jP 3),a2C,a7N,a0u,a0l,a0o,a0r,a0v,a0z] [] a0J))) (nD b0c (jU 1 [a0d,b0e,b0k,a0g,a2C,a7N,a0u,a0l,a0o,a0r,a0v,a0z] [] a0J))))))))))) (jU 0 [a0d,a0k,a0f,a0g,a3w,a0u,a0l,a0o,a0r,a0v,a0z] [] a0J)) (.ite (.eq a0p a2I) (.ite (.lt a0t a0r) (nD c3e (lO ff (.ea 0 a2I 5 3) a0K (nD c5H (nD c3e (lO ff (.ea 0 a2I 5 2) a0K (nD c5G (nD c3e (lO ff (.ea 0 a2I 5 4) a0K (.ite c5U (nD b9Y (nD b0c (jU 1 [a0d,b0e,b0k,(jP 3),a2I,a7N,a0u,a0l,a0o,a0r,a0v,a0z] [] a0J))) (nD b0c (jU 1 [a0d,b0e,b0k,a0g,a2I,a7N,a0u,a0l,a0o,a0r,a0v,a0z] [] a0J))))))))))) (jU 0 [a0d,a0k,a0f,a0g,a2C,a0u,a0l,a0o,a0r,a0v,a0z] [] a0J)) (.ite (.eq a0p a2Z) (.ite (.lt a0t a0o) (nD c2k (lO ff (.ea 0 a2Z 5 3) a0K (nD c5H (nD c2k (lO ff (.ea 0 a2Z 5 2) a0K (nD c5G (nD c2k (lO ff (.ea 0 a2Z 5 4) a0K (.ite c5U (nD b9Y (nD b0c (jU 1 [a0d,b0e,b0k,(jP 3),a2Z,a7N,a0u,a0l,a0o,a0r,a0v,a0z] [] a0J))) (nD b0c (jU 1 [a0d,b0e,b0k,a0g,a2Z,a7N,a0u,a0l,a0o,a0r,a0v,a0z] [] a0J))))))))))) (jU 0 [a0d,a0k,a0f,a0g,a2I,a0u,a0l,a0o,a0r,a0v,a0z] [] a0J)) (.ite (.eq a0p a1n) (.ite (.lt a0t a0l) (nD c3b (lO ff (.ea 0 a1n 5 3) a0K (nD c5H (nD c3b (lO ff (.ea 0 a1n 5 2) a0K (nD c5G (nD c3b (lO ff (.ea 0 a1n 5 4) a0K (.ite c5U (nD b9Y (nD b0c (jU 1 [a0d,b0e,b0k,(jP 3),a1n,a7N,a0u,a0l,a0o,a0r,a0v,a0z] [] a0J))) (nD b0c (jU 1 [a0d,b0e,b0k,a0g,a1n,a7N,a0u,a0l,a0o,a0r,a0v,a0z] [] a0J))))))))))) (jU 0 [a0d,a0k,a0f,a0g,a2Z,a0u,a0l,a0o,a0r,a0v,a0z] [] a0J)) (.ite c0c (.ite (.lt a0t a0u) (nD c0n (lO ff (.ea 0 a0q 5 3) a0K (nD c5H (nD c0n (lO ff (.ea 0 a0q 5 2) a0K (nD c5G (nD c0n (lO ff (.ea 0 a0q 5 4) a0K (.ite c5U (nD b9Y (nD b0c (jU 1 [a0d,b0e,b0k,(jP 3),a0q,a7N,a0u,a0l,a0o,a0r,a0v,a0z] [] a0J))) (nD b0c (jU 1 [a0d,b0e,b0k,a0g,a0q,a7N,a0u,a0l,a0o,a0r,a0v,a0z] [] a0J))))))))))) (jU 0 [a0d,a0k,a0f,a0g,a1n,a0u,a0l,a0o,a0r,a0v,a0z] [] a0J)) .stuck))))))
def a2q:Qq:=⟨[(.sh (.one .val)),(.sh (.one jD)),(.sh (.agg [jD,jD,jD,jD,jD,jD]))],a7b,[a3r,a6L],nO,nO⟩
def c7r:List Cfg:=[{todo:=[(.code (tfR 7 116)),(.inLoop (tfR 7 116)),(.inBlock 0),(.code [tt,tt,tt,tt])],sl:=[(.va 0),(jA 0),(.junk 0),.undef,.undef,(.ptr 0 0),(.junk 1),(.junk 2),(.junk 3),(jA 1),(jA 2),(jA 3),(jA 4)]++jkR 4 45++[.undef,.undef,.undef],H:=[(.cells d5Q 51 ff)],ni:=11,nb:=0,nv:=1,nj:=49},
 {todo:=[(.code (tfR 13 7460)),(.inLoop (tfR 13 7460)),(.inBlock 2),(.inBlock 1),(.code (tfR 9 467)),(.inLoop (tfR 7 116)),(.inBlock 0),(.code [tt,tt,tt,tt])],sl:=[(.va 0),(jA 0),(.junk 0),.undef,.undef,(.ptr 0 0),(.junk 1),(.junk 2),(.junk 3),(jA 1),(jA 2),(jA 3),(jA 4),(jA 5)]++jkR 4 44++[.undef,.undef,.undef],H:=[(.cells [a2h,a2k,a2s,a2f,a2r,a2L] 51 ff)],ni:=12,nb:=0,nv:=1,nj:=48}]
def d0w:=okg 50 a2q c7r func50 call50 ff ff [(tfR 7 116),(tfR 13 7460)]
def b8x:PT:=(cA 88 [a1L,b2L,a1j,a0Q] [] a0W (.ite c0i (.ret tt (.tup [.nilS,a2k]) []) (cA 89 a0J [] a3x (nD a3Z (jU 0 [a0d,a0P,a0q,a0k,a0f,a0g,a0p,a0t,a0u] [] [a1f,a0Q])))))
def a8K:PT:=(.ite b6k (nD c2l (lO ff (.ea 1 a0f 6 0) a2W (cA 90 a0J [] a2n (.ite b4g (nD b6s (lO ff d5C a2W (cA 91 [b6m,d0W,d1J,c5T] [] a1A (.ite a3E e2f e5T)))) (.ite b6n (nD b6s (lO ff d5C a2W (cA 92 [b6m,d0W,d1J,c5T] [] a2n (nD b6s (.storeM d5C [(jA 27),(jA 28),(jA 29),(jA 30),(jA 31),(jA 32)] e2f))))) e5T))))) (.ret tt (.tup [a1j,a0O]) []))
def a5a:Qq:=⟨[(.sh (.one jD)),(.sh (.agg [jD,jD,jD,jD,jD,jD])),(.sh (.one .val)),(.sh (.one .val))],b8x,[a8K],nO,nO⟩
def d3p:List Cfg:=[{todo:=[(.code (tfR 7 116)),(.inLoop (tfR 7 116)),(.inBlock 0),(.code [tt,tt,tt,tt])],sl:=[(jA 0),(.junk 0),(.junk 1),(.junk 2),.undef,(.ptr 0 0),.undef,.undef,(.junk 3),(.junk 4),(.junk 5),(.va 0)]++jkR 6 10++[.undef,(.junk 16),(.junk 17),(.va 1),(jA 1),(jA 2)]++jkR 18 32++[.undef],H:=[(.cells e1z 51 ff)],ni:=9,nb:=0,nv:=2,nj:=50}]
def d4W:=okg 58 a5a d3p func58 call58 tt tt [(tfR 7 116)]
def b4S:PT:=(nD b1d (.ite (.lt a4P a3W) b4o (nD b1d (jU 0 [a3W,a0q] [] [a1d,a1j,a0Q,a1f]))))
def a7z:PT:=(.ite a8b (nD a3T (lO ff (.ea 0 a0k 3 0) b3V (.ite c0j a6h (nD a3Z (.ite (.le a0P a0f) a6h (.ite d6D a1e (.ite c3n a1e (.ite (.lt a0p a1n) a1e (nD c2l (lO tt (.ea 1 a0f 5 1) a0K (.ite (.lt a0t a0p) a1e (.cut 0 nO (sm (.a 1)) 3 (nD a6f (jU 1 [a0d,a0k,a0f,a0P,a0g,a0p,a0t,a3b,a0q] [(.le a0P a0f),c3n,(.lt a0p a1n),(.lt a0t a0p)] [a1j,a0Q,a1i,a1f,a1d])))))))))))))) a3z)
def a7u:PT:=(.ite (.lt a0o a0l) (nD (treeI a0o a2Q) (lO ff (.ea 2 a0o 3 0) b3V (.ite (.eq a0r a0f) c0g (nD (treeB (jP 8)) (jU 1 [a0d,a0k,a0f,a0g,a0p,a0t,a0u,a0l,(jP 8)] d6t d1u))))) (nD a1u (jU 0 b6o [] [a1j,a0Q,a1d,a1i])))
def a3s:Qq:=⟨[(.sh (.agg [.val,.val,.val,.val]))],b4S,[a7z,a7u],nO,nO⟩
def c9w:List Cfg:=[{todo:=[(.code (tfR 6 52)),(.inLoop (tfR 6 52)),(.inBlock 0),(.code [tt,tt,tt])],sl:=[(.junk 0),(.ptr 0 0),(.junk 1),(.junk 2),(.junk 3),.undef]++jkR 4 6++[(.va 0),(jA 0),(jA 1)]++jkR 10 56,H:=[(.cells [a0Q,a1f,a1d,a1j] 27 ff)],ni:=2,nb:=0,nv:=4,nj:=66},
 {todo:=[(.code (tfR 16 54076)),(.inLoop (tfR 16 54076)),(.inBlock 2),(.inBlock 1),(.code (tfR 9 423)),(.inLoop (tfR 6 52)),(.inBlock 0),(.code [tt,tt,tt])],sl:=[(.junk 0),(.ptr 0 0),(.junk 1),(.junk 2),(.ptr 1 0),.undef]++jkR 3 6++[(.va 0),(jA 0),(jA 1)]++jkR 9 8++[(.ptr 1 0),(jA 2),(.ptr 0 0),(.va 1),(jA 3),(.bool (.a 0))]++jkR 17 5++[(.ptr 1 1),(jA 4),(.bool (.a 1)),(.junk 22),(.junk 23),(.ptr 1 2),(jA 5),(.bool (.a 2)),(.junk 24),(.junk 25),(.ptr 1 2),(jA 5),(.ptr 0 0),(.va 1),(.ptr 1 0),(jA 2),(.ea 1 (.a 2) 5 0),(.ea 1 (.a 2) 5 1),(jA 6),(.bool (.a 3))]++jkR 26 4++[(.va 2),(jA 7),(jA 8)]++jkR 30 10,H:=[(.cells [a0Q,a1d,a1i,a1j] 27 ff),(.cells d6a 91 ff)],ni:=9,nb:=4,nv:=5,nj:=40}]
def d2j:=okg 66 a3s c9w func66 call66 ff ff [(tfR 6 52),(tfR 16 54076)]
def b3h:PT:=(cA 17 d0g [] a0W (.ite d6u d1o (cA 111 [(.agg [a2Y,a2u,a2h,a2k,a2s,a2f])] [] a1A (.ite a4h d1o (jU 0 e6J [] [])))))
def a6F:PT:=(.ite d6F (.ite d1E (.ite (.lt a0q a0N) (cA 112 [c5I,a2r] [] a0W (jU 0 [a4P,a0k,a0f,a0g,a0p,a0t,a0u,a0l,a0o,a0r,a0T,a0z,a0D,a0y,a0B,a0C,a0N] [] [])) (jU 0 [a4P,a0k,a0f,a0g,a0p,a0t,a0u,a0l,a0o,a0r,a0v,a0z,a0D,a0y,a0B,a0C,a0N] [] [])) (.ite d0n (.ite (.lt a0q a0C) (cA 112 [c5I,a2f] [] a0W (jU 0 [a3w,a0k,a0f,a0g,a0p,a0t,a0u,a0l,a0o,a0T,a0v,a0z,a0D,a0y,a0B,a0C,a0N] [] [])) (jU 0 [a3w,a0k,a0f,a0g,a0p,a0t,a0u,a0l,a0o,a0r,a0v,a0z,a0D,a0y,a0B,a0C,a0N] [] [])) (.ite b6n (.ite (.lt a0q a0B) (cA 112 [c5I,a2s] [] a0W (jU 0 [a2C,a0k,a0f,a0g,a0p,a0t,a0u,a0l,a0T,a0r,a0v,a0z,a0D,a0y,a0B,a0C,a0N] [] [])) (jU 0 [a2C,a0k,a0f,a0g,a0p,a0t,a0u,a0l,a0o,a0r,a0v,a0z,a0D,a0y,a0B,a0C,a0N] [] [])) (.ite b4g (.ite (.lt a0q a0y) (cA 112 [c5I,a2k] [] a0W (jU 0 [a2I,a0k,a0f,a0g,a0p,a0t,a0u,a0T,a0o,a0r,a0v,a0z,a0D,a0y,a0B,a0C,a0N] [] [])) (jU 0 [a2I,a0k,a0f,a0g,a0p,a0t,a0u,a0l,a0o,a0r,a0v,a0z,a0D,a0y,a0B,a0C,a0N] [] [])) (.ite b3X (.ite (.lt a0q a0D) (cA 112 [c5I,a2h] [] a0W (jU 0 [a2Z,a0k,a0f,a0g,a0p,a0t,a0T,a0l,a0o,a0r,a0v,a0z,a0D,a0y,a0B,a0C,a0N] [] [])) (jU 0 [a2Z,a0k,a0f,a0g,a0p,a0t,a0u,a0l,a0o,a0r,a0v,a0z,a0D,a0y,a0B,a0C,a0N] [] [])) (.ite b4k (.ite (.lt a0q a0z) (cA 112 [c5I,a2u] [] a0W (jU 0 [a1n,a0k,a0f,a0g,a0p,a0T,a0u,a0l,a0o,a0r,a0v,a0z,a0D,a0y,a0B,a0C,a0N] [] [])) (jU 0 [a1n,a0k,a0f,a0g,a0p,a0t,a0u,a0l,a0o,a0r,a0v,a0z,a0D,a0y,a0B,a0C,a0N] [] [])) .stuck)))))) (cA 111 [(.agg d5Q)] [] a1A (.ite a4h d1o (.ret ff (.tup [(.agg d5Q),a0O]) []))))
def a3B:Qq:=⟨[(.sh (.agg [jD,jD,jD,jD])),(.sh (.agg [jD,jD,jD,jD,jD,jD])),(.sh (.agg [jD,jD,jD,jD,jD,jD]))],b3h,[a6F],nO,nO⟩
def c7V:List Cfg:=[{todo:=[(.code (tfR 6 52)),(.inLoop (tfR 6 52)),(.inBlock 0),(.code [tt,tt,tt])],sl:=[(.junk 0),(.junk 1),(.junk 2),(.ptr 0 0),(.ptr 1 0),(.ptr 2 0),(.ptr 3 0),(.junk 3),(jA 0)]++jkR 4 8++[.undef]++jkR 12 15++udR 5,H:=[(.cells e0J 29 ff),(.cells d5Q 38 ff),(.cells c0k 51 ff),(.cells a1w 38 ff)],ni:=17,nb:=0,nv:=0,nj:=27}]
def d1l:=okg 74 a3B c7V func74 call74 ff ff [(tfR 6 52)]
def b0M:PT:=(cA 119 e0F [] a0W (cA 120 [a3h,a1L,a1i] [] a0W (.ret ff (.bool (.le a0y a0B)) [])))
def b0U:Qq:=⟨[(.sh (.agg [.val,.val,.val,.val,jD,.val])),(.sh (.agg [jD,jD,jD,jD,jD,jD,jD,jD,jD,jD,jD,jD]))],b0M,[],nO,nO⟩
def c6q:=okg 82 b0U [] func82 call82 ff ff
def c9O:PT:=(cA 94 a0J [] a2n d6z)
def c9a:Qq:=⟨[(.sh (.one .val))],c9O,[],nO,nO⟩
def e4u:=okg 90 c9a [] func90 call90 tt ff
def c2j:PT:=e8h
def a6V:PT:=(.ite a8b (nD c7d (lO ff (.ea 1 a0k 5 0) d0U e5Q)) e2z)
def a8q:Qq:=⟨[(.sh (.one .val)),(.sh (.one .val))],c2j,[a6V],nO,nO⟩
def d6T:List Cfg:=[{todo:=[(.code (tfR 5 20)),(.inLoop (tfR 5 20)),(.inBlock 0),(.code [tt,tt])],sl:=[(.junk 0),(.va 0),.undef,.undef]++jkR 1 4++[(.va 1),(jA 0),(jA 1)]++jkR 5 8++[.undef,(.junk 13)],H:=[],ni:=2,nb:=0,nv:=2,nj:=14}]
def d9H:=okg 98 a8q d6T func98 call98 ff ff [(tfR 5 20)]
def b1L:PT:=(cA 50 [a1j,a0O,b2Y] [] [a7e,a7e,a7e] (.ret ff a2h []))
def b1N:Qq:=⟨[(.sh (.agg [.val,.val,.val,.val])),(.sh (.agg [jD,jD,jD,jD,jD,jD]))],b1L,[],nO,nO⟩
def c8b:=okg 106 b1N [] func106 call106 ff ff
def b4r:PT :=
 (nD (.is 3 0)
 (nD (.lt (.l 0) (.stl 0))
 (cA 113 [(.int .u8 (.sat 0 (.l 0)))] [] [(.one .bool)]
 (.ite (.a 0)
 (jU 0 [(.l 1)] [] [(.va 0)])
 (nD (.is 3 0)
 (nD (.lt (.l 0) (.stl 0))
 (cA 128 [(.int .u8 (.sat 0 (.l 0)))] [] [(.one .bool)]
 (.ite (.a 1)
  (jU 1 [(.l 1)] [] [(.va 0)])
  (nD (.is 3 0)
  (nD (.lt (.l 0) (.stl 0))
  (cA 129 [(.int .u8 (.sat 0 (.l 0)))] [] [(.one .bool)]
  (.ite (.a 2)
  (.scut 0 nO (sm (.l 1))
  (.ret ff (.tup [(.agg [(jE 3),(.va 1),(jE 0),(jE 0)]),(jE 0)]) []))
  (.ret ff (.tup [(.agg [(jE 0),(.str []),(jE 0),(jE 0)]),(jE 2)]) [])))))))))))))
def a4e:PT :=
 (nD (.is 3 0)
 (.ite (.lt (.a 0) (.stl 0))
 (nD (.is 3 0)
 (nD (treeI (.a 0) (.stl 0))
 (cA 113 [(.int .u8 (.sat 0 (.a 0)))] [] [(.one .bool)]
 (.ite (.a 0)
  (nD (treeB (jP 0))
  (jU 0 [(jP 0)] [] [(.va 0)]))
  (nD (.is 3 0)
  (nD (treeI (.a 0) (.stl 0))
  (cA 128 [(.int .u8 (.sat 0 (.a 0)))] [] [(.one .bool)]
  (.ite (.a 1)
  (nD (treeB (jP 0))
  (jU 0 [(jP 0)] [] [(.va 0)]))
  (nD (.is 3 0)
  (nD (treeI (.a 0) (.stl 0))
  (.ite (.eq (.sat 0 (.a 0)) (.l 95))
   (nD (treeB (jP 0))
   (jU 0 [(jP 0)] [] [(.va 0)]))
   (.ite (.lt (.l 12) (.a 0))
   (.ret ff (.tup [(.agg [(jE 0),(.str []),(jE 0),(jE 0)]),(jE 3)]) [])
   (.scut 0 nO (sm (.a 0))
   (.ret ff (.tup [(.agg [(jE 1),(.va 1),(jE 0),(jE 0)]),(jE 0)]) []))))))))))))))
 (.ite (.lt (.l 12) (.a 0))
  (.ret ff (.tup [(.agg [(jE 0),(.str []),(jE 0),(jE 0)]),(jE 3)]) [])
  (.scut 0 nO (sm (.a 0))
  (.ret ff (.tup [(.agg [(jE 1),(.va 1),(jE 0),(jE 0)]),(jE 0)]) [])))))
def d3a:PT :=
 (nD (.is 3 0)
 (.ite (.lt (.a 0) (.stl 0))
 (nD (.is 3 0)
 (nD (treeI (.a 0) (.stl 0))
 (cA 128 [(.int .u8 (.sat 0 (.a 0)))] [] [(.one .bool)]
 (.ite (.a 0)
  (nD (treeB (jP 0))
  (jU 1 [(jP 0)] [] [(.va 0)]))
  (.ite (.lt (.l 1) (.a 0))
  (nD (.is 3 0)
  (nD (.lt (.l 0) (.stl 0))
  (.ite (.eq (.sat 0 (.l 0)) (.l 48))
   (.ret ff (.tup [(.agg [(jE 0),(.str []),(jE 0),(jE 0)]),(jE 2)]) [])
   (.ite (.lt (.l 9) (.a 0))
   (.ret ff (.tup [(.agg [(jE 0),(.str []),(jE 0),(jE 0)]),(jE 4)]) [])
   (jU 2 [(.a 0),(.l 0),(.l 0)] [] [(.va 0)])))))
  (.ite (.lt (.l 9) (.a 0))
   (.ret ff (.tup [(.agg [(jE 0),(.str []),(jE 0),(jE 0)]),(jE 4)]) [])
   (jU 2 [(.a 0),(.l 0),(.l 0)] [] [(.va 0)])))))))
 (.ite (.lt (.l 1) (.a 0))
  (nD (.is 3 0)
  (nD (.lt (.l 0) (.stl 0))
  (.ite (.eq (.sat 0 (.l 0)) (.l 48))
  (.ret ff (.tup [(.agg [(jE 0),(.str []),(jE 0),(jE 0)]),(jE 2)]) [])
  (.ite (.lt (.l 9) (.a 0))
   (.ret ff (.tup [(.agg [(jE 0),(.str []),(jE 0),(jE 0)]),(jE 4)]) [])
   (jU 2 [(.a 0),(.l 0),(.l 0)] [] [(.va 0)])))))
  (.ite (.lt (.l 9) (.a 0))
  (.ret ff (.tup [(.agg [(jE 0),(.str []),(jE 0),(jE 0)]),(jE 4)]) [])
  (jU 2 [(.a 0),(.l 0),(.l 0)] [] [(.va 0)])))))
def d3x:PT:=(.ite (.lt a0f a0d) (nD (treeB (.mul a0k (.l 10))) (nD b1c (nD (treeI a0f c2x) (nD (.and (.le a0q d6c) (.le d6c (.l 255))) (nD (treeB d6c) (nD (treeB e8C) (nD a8l (jU 2 [a0d,e8C,(jP 2)] [] a0J)))))))) (.scut 0 nO (sm (.a 0)) (.ret ff (.tup [(.agg [(jE 2),a0Q,a1P,a0O]),a0O]) [])))
def a6j:Qq:=⟨[(.sh (.one .val))],b4r,[a4e,d3a,d3x],nO,nO⟩
def c8X:List Cfg:=[{todo:=[(.code (tfR 9 400)),(.inLoop (tfR 9 400)),(.inBlock 1),(.code (tfR 7 101)),(.inBlock 0),(.code [tt,tt,tt])],sl:=[(.va 0),.undef,(.ptr 0 0),(.junk 0),(jA 0),.undef,.undef]++jkR 1 28++udR 60,H:=[(.cells [(jE 0),(.str []),(jE 0),(jE 0)] 153 ff)],ni:=1,nb:=0,nv:=1,nj:=29},
 {todo:=[(.code (tfR 11 1648)),(.inLoop (tfR 11 1648)),(.inBlock 3),(.code (tfR 9 413)),(.inBlock 0),(.code [tt,tt,tt])],sl:=[(.va 0),.undef,(.ptr 0 0),(.junk 0),(jA 0),.undef,.undef]++jkR 1 4++udR 31++jkR 5 16++udR 37,H:=[(.cells [(jE 0),(.str []),(jE 0),(jE 0)] 153 ff)],ni:=1,nb:=0,nv:=1,nj:=21},
 {todo:=[(.code (tfR 16 52980)),(.inLoop (tfR 16 52980)),(.inBlock 5),(.code (tfR 13 6623)),(.inBlock 0),(.code [tt,tt,tt])],sl:=[(.va 0),.undef,(.ptr 0 0),(.junk 0),(jA 0),(jA 1),(jA 2)]++jkR 1 4++udR 31++jkR 5 23++[.undef,(.junk 28),(.junk 29),.undef]++jkR 30 13++udR 13,H:=[(.cells [(jE 0),(.str []),(jE 0),(jE 0)] 153 ff)],ni:=3,nb:=0,nv:=1,nj:=43}]
def d3e:=okg 114 a6j c8X func114 call114 ff ff [(tfR 9 400),(tfR 11 1648),(tfR 16 52980)]
def b2q:PT:=(lO ff b6q a0K (nD (treeB (.add a0d a0k)) (lO ff (.pa 0 1) a0K (nD (treeB (.mul a0d a0f)) (nD (treeB e0S) (nD (treeB (.tdiv e0S (.l 100))) (nD (treeB e6T) (.ret tt (.int .i64 e6T) []))))))))
def b2W:Qq:=⟨[(.sh (.one jD)),.ptr],b2q,[],nO,nO⟩
def c8I:=okg 122 b2W [] func122 call122 tt tt
def c4B:PT:=(.ret ff (.agg [(.int .i64 (.mn a0d a0u)),(.int .i64 (.mn a0k a0l)),(.int .i64 (.mn a0f a0o)),(.int .i64 (.mn a0g a0r)),(.int .i64 (.mn a0p a0v)),(.int .i64 (.mn a0t a0z))]) [])
def c4r:Qq:=⟨[(.sh (.agg [jD,jD,jD,jD,jD,jD])),(.sh (.agg [jD,jD,jD,jD,jD,jD]))],c4B,[],nO,nO⟩
def e1Y:=okg 130 c4r [] func130 call130 ff ff
def b5z:PT:=(.ret ff a1N [])
def b5O:Qq:=⟨[(.sh (.agg [.val,jD,jD,jD,jD]))],b5z,[],nO,nO⟩
def d3Q:=okg 138 b5O [] func138 call138 ff ff
def a9s(sz:Nat):List PV->List MO->Option (PV×List MO)
 | [.nilS],σ=>sm (.nilS,σ)
 | [.sl n rows],σ=>if n=sz/\rows.length<=1000000 then sm (.sl n rows,σ) else nO
 | _,_=>nO
theorem f4W{s:Hp}{B:Inf}{n:Nat}{v:Value}(h:Rep s B .nilS v):Rep s B (.sl n []) v:=by
 simp only[Rep] at h ⊢;subst h;exact⟨[],⟨by simp,nO,0,rfl,Q4 _,by simp⟩,rfl,by simp⟩
theorem d5R{P:Program}{f:Nat}{aa:List PV}{σ:List MO}{n:Nat}(h:CtD P f aa σ (fun r σ'=>(r=.nilS\/r=.sl n [])/\σ'=σ)):CtD P f aa σ (fun r σ'=>r=.sl n []/\σ'=σ):=by
 refine⟨h.1,fun s m vs a b c w hs hm=>(h.2 s m vs a b c w hs hm).mono ?_⟩;rintro e w' ⟨v,s',m',e1,e2,e3,e4,e5,e6,e7,r',σ'',⟨hr,rfl⟩,hq⟩;refine⟨v,s',m',e1,e2,e3,e4,e5,e6,e7,.sl n [],_,⟨rfl,rfl⟩,hq.1,?_,hq.2.2⟩;rcases hr with rfl|rfl
 ·exact f4W hq.2.1
 ·exact hq.2.1
theorem a4O:SysIs Qr 67 a7Z:=d0D (c:=(cg [] [] [] ff ff ff tt)) (c5x _ _ _ _ _ _ _ _ _) Tryz.func67 Tryz.call67 (by kernel_rfl) b3c a7Z 5000 rfl (by kernel_rfl) (by kernel_rfl)
def a8c:Qq:=⟨[],.stuck,[],sm (a9s 5),nO⟩
theorem b3d:SysOk Qr 67 a8c where
 ct Φ hΦ n aa σ r σ' hh:=by
  change a9s 5 aa σ=sm (r,σ') at hh;unfold a9s at hh;split at hh
  ·simp only[Q0,Q1] at hh
   obtain⟨rfl,rfl⟩:=hh;refine Qv (a4O.dm Φ hΦ 1 _ _ _ ⟨([],[],[.nilS]),rfl,?_⟩);show Qs _ a1Y _ _;unfold a1Y;refine b0d rfl rfl (c5n rfl rfl ⟨.nilS,rfl,(.nilS,_),?_,rfl,rfl⟩);simp[a0n]
  ·rename_i σ0 n rows
   split at hh
   case isFalse=>cases hh
   rename_i hc;obtain⟨rfl,hc⟩:=hc;simp only[Q0,Q1] at hh;obtain⟨rfl,rfl⟩:=hh;cases rows with
   | nil =>
    refine Qv (d5R (a4O.dm Φ hΦ 1 _ _ _ ⟨([],[],[.sl 5 []]),rfl,?_⟩));show Qs _ a1Y _ _;unfold a1Y;refine b0d rfl rfl ?_;simp only[Qs];rw[if_neg (by simp[Qy,PEnv.at,Qz])];refine⟨⟨.nilS,rfl,(.nilS,_),by simp[a0n],.inl rfl,rfl⟩,[],rfl,[],rfl,?_⟩;rw[Qt (by simp)];refine⟨[],by simp[c8T,Qu],[],by simp[a1O,Qu],?_⟩;rw[Qt (by simp)];exact⟨.sl 5 [],rfl,(.sl 5 [],_),by simp[a0n],.inr rfl,rfl⟩
   | cons x rows =>
    refine Qv (a4O.dm Φ hΦ 1 _ _ _ ⟨([],[],[.sl 5 (x::rows)]),rfl,?_⟩);show Qs _ a1Y _ _;unfold a1Y;refine b0d rfl rfl (c5r rfl rfl ?_);simp only[Qs];refine⟨[],rfl,[],rfl,?_⟩;rw[Qt (by simp)];refine⟨[],by simp[c8T,Qu],x::rows,by simp[a1O,Qu],?_⟩;rw[Qt (by simpa using hc)];exact⟨.sl 5 (x::rows),rfl,(.sl 5 (x::rows),_),by simp[a0n],rfl,rfl⟩
  ·cases hh
theorem a5q:SysIs Qr 68 a8L:=d0D (c:=(cg [] [] [] ff ff ff tt)) (c5x _ _ _ _ _ _ _ _ _) Tryz.func68 Tryz.call68 (by kernel_rfl) b3T a8L 5000 rfl (by kernel_rfl) (by kernel_rfl)
def a8E:Qq:=⟨[],.stuck,[],sm (a9s 4),nO⟩
theorem b3M:SysOk Qr 68 a8E where
 ct Φ hΦ n aa σ r σ' hh:=by
  change a9s 4 aa σ=sm (r,σ') at hh;unfold a9s at hh;split at hh
  ·simp only[Q0,Q1] at hh
   obtain⟨rfl,rfl⟩:=hh;refine Qv (a5q.dm Φ hΦ 1 _ _ _ ⟨([],[],[.nilS]),rfl,?_⟩);show Qs _ a2l _ _;unfold a2l;refine b0d rfl rfl (c5n rfl rfl ⟨.nilS,rfl,(.nilS,_),?_,rfl,rfl⟩);simp[a0n]
  ·rename_i σ0 n rows
   split at hh
   case isFalse=>cases hh
   rename_i hc;obtain⟨rfl,hc⟩:=hc;simp only[Q0,Q1] at hh;obtain⟨rfl,rfl⟩:=hh;cases rows with
   | nil =>
    refine Qv (d5R (a5q.dm Φ hΦ 1 _ _ _ ⟨([],[],[.sl 4 []]),rfl,?_⟩));show Qs _ a2l _ _;unfold a2l;refine b0d rfl rfl ?_;simp only[Qs];rw[if_neg (by simp[Qy,PEnv.at,Qz])];refine⟨⟨.nilS,rfl,(.nilS,_),by simp[a0n],.inl rfl,rfl⟩,[],rfl,[],rfl,?_⟩;rw[Qt (by simp)];refine⟨[],by simp[c8T,Qu],[],by simp[a1O,Qu],?_⟩;rw[Qt (by simp)];exact⟨.sl 4 [],rfl,(.sl 4 [],_),by simp[a0n],.inr rfl,rfl⟩
   | cons x rows =>
    refine Qv (a5q.dm Φ hΦ 1 _ _ _ ⟨([],[],[.sl 4 (x::rows)]),rfl,?_⟩);show Qs _ a2l _ _;unfold a2l;refine b0d rfl rfl (c5r rfl rfl ?_);simp only[Qs];refine⟨[],rfl,[],rfl,?_⟩;rw[Qt (by simp)];refine⟨[],by simp[c8T,Qu],x::rows,by simp[a1O,Qu],?_⟩;rw[Qt (by simpa using hc)];exact⟨.sl 4 (x::rows),rfl,(.sl 4 (x::rows),_),by simp[a0n],rfl,rfl⟩
  ·cases hh
theorem a6R:SysIs Qr 69 b1t:=d0D (c:=(cg [] [] [] ff ff ff tt)) (c5x _ _ _ _ _ _ _ _ _) Tryz.func69 Tryz.call69 (by kernel_rfl) b8N b1t 5000 rfl (by kernel_rfl) (by kernel_rfl)
def b1g:Qq:=⟨[],.stuck,[],sm (a9s 3),nO⟩
theorem b8R:SysOk Qr 69 b1g where
 ct Φ hΦ n aa σ r σ' hh:=by
  change a9s 3 aa σ=sm (r,σ') at hh;unfold a9s at hh;split at hh
  ·simp only[Q0,Q1] at hh
   obtain⟨rfl,rfl⟩:=hh;refine Qv (a6R.dm Φ hΦ 1 _ _ _ ⟨([],[],[.nilS]),rfl,?_⟩);show Qs _ a2V _ _;unfold a2V;refine b0d rfl rfl (c5n rfl rfl ⟨.nilS,rfl,(.nilS,_),?_,rfl,rfl⟩);simp[a0n]
  ·rename_i σ0 n rows
   split at hh
   case isFalse=>cases hh
   rename_i hc;obtain⟨rfl,hc⟩:=hc;simp only[Q0,Q1] at hh;obtain⟨rfl,rfl⟩:=hh;cases rows with
   | nil =>
    refine Qv (d5R (a6R.dm Φ hΦ 1 _ _ _ ⟨([],[],[.sl 3 []]),rfl,?_⟩));show Qs _ a2V _ _;unfold a2V;refine b0d rfl rfl ?_;simp only[Qs];rw[if_neg (by simp[Qy,PEnv.at,Qz])];refine⟨⟨.nilS,rfl,(.nilS,_),by simp[a0n],.inl rfl,rfl⟩,[],rfl,[],rfl,?_⟩;rw[Qt (by simp)];refine⟨[],by simp[c8T,Qu],[],by simp[a1O,Qu],?_⟩;rw[Qt (by simp)];exact⟨.sl 3 [],rfl,(.sl 3 [],_),by simp[a0n],.inr rfl,rfl⟩
   | cons x rows =>
    refine Qv (a6R.dm Φ hΦ 1 _ _ _ ⟨([],[],[.sl 3 (x::rows)]),rfl,?_⟩);show Qs _ a2V _ _;unfold a2V;refine b0d rfl rfl (c5r rfl rfl ?_);simp only[Qs];refine⟨[],rfl,[],rfl,?_⟩;rw[Qt (by simp)];refine⟨[],by simp[c8T,Qu],x::rows,by simp[a1O,Qu],?_⟩;rw[Qt (by simpa using hc)];exact⟨.sl 3 (x::rows),rfl,(.sl 3 (x::rows),_),by simp[a0n],rfl,rfl⟩
  ·cases hh
theorem a5L:SysIs Qr 70 a9r:=d0D (c:=(cg [] [] [] ff ff ff tt)) (c5x _ _ _ _ _ _ _ _ _) Tryz.func70 Tryz.call70 (by kernel_rfl) b5e a9r 5000 rfl (by kernel_rfl) (by kernel_rfl)
def a9u:Qq:=⟨[],.stuck,[],sm (a9s 3),nO⟩
theorem b5f:SysOk Qr 70 a9u where
 ct Φ hΦ n aa σ r σ' hh:=by
  change a9s 3 aa σ=sm (r,σ') at hh;unfold a9s at hh;split at hh
  ·simp only[Q0,Q1] at hh
   obtain⟨rfl,rfl⟩:=hh;refine Qv (a5L.dm Φ hΦ 1 _ _ _ ⟨([],[],[.nilS]),rfl,?_⟩);show Qs _ a2y _ _;unfold a2y;refine b0d rfl rfl (c5n rfl rfl ⟨.nilS,rfl,(.nilS,_),?_,rfl,rfl⟩);simp[a0n]
  ·rename_i σ0 n rows
   split at hh
   case isFalse=>cases hh
   rename_i hc;obtain⟨rfl,hc⟩:=hc;simp only[Q0,Q1] at hh;obtain⟨rfl,rfl⟩:=hh;cases rows with
   | nil =>
    refine Qv (d5R (a5L.dm Φ hΦ 1 _ _ _ ⟨([],[],[.sl 3 []]),rfl,?_⟩));show Qs _ a2y _ _;unfold a2y;refine b0d rfl rfl ?_;simp only[Qs];rw[if_neg (by simp[Qy,PEnv.at,Qz])];refine⟨⟨.nilS,rfl,(.nilS,_),by simp[a0n],.inl rfl,rfl⟩,[],rfl,[],rfl,?_⟩;rw[Qt (by simp)];refine⟨[],by simp[c8T,Qu],[],by simp[a1O,Qu],?_⟩;rw[Qt (by simp)];exact⟨.sl 3 [],rfl,(.sl 3 [],_),by simp[a0n],.inr rfl,rfl⟩
   | cons x rows =>
    refine Qv (a5L.dm Φ hΦ 1 _ _ _ ⟨([],[],[.sl 3 (x::rows)]),rfl,?_⟩);show Qs _ a2y _ _;unfold a2y;refine b0d rfl rfl (c5r rfl rfl ?_);simp only[Qs];refine⟨[],rfl,[],rfl,?_⟩;rw[Qt (by simp)];refine⟨[],by simp[c8T,Qu],x::rows,by simp[a1O,Qu],?_⟩;rw[Qt (by simpa using hc)];exact⟨.sl 3 (x::rows),rfl,(.sl 3 (x::rows),_),by simp[a0n],rfl,rfl⟩
  ·cases hh
def a5h:Qq:=a8c
theorem b3A:SysOk Qr 67 a5h:=b3d
def a5z:Qq:=a8E
theorem b4C:SysOk Qr 68 a5z:=b3M
def a7w:Qq:=b1g
theorem b9x:SysOk Qr 69 a7w:=b8R
def a6a:Qq:=a9u
theorem b5p:SysOk Qr 70 a6a:=b5f
open Go.Shelf Go.RowKit Go.Lib Go.Sort Go.Sx Go.Proofs
def f0b:List Value:=[.int .i64 0,.int .i64 0,.int .i64 0,.int .i64 0,.int .i64 0,.int .i64 0]
theorem f6j:(Qr.info? 51).map (fun i=>(i.zero,i.size,i.bytes))=sm (sm (.agg f0b.toArray),6,48):=by kernel_rfl
set_option maxHeartbeats 4000000 in
set_option maxRecDepth 1000000 in
theorem e4Y:d7o Qr 89 51 6:=by
 intro w b off n c news hpos hn6 hl hc h1;obtain⟨i0,hi0,hz0,hz1,hz2⟩:=info_parts f6j;have mixed:Qr.follows Departure.mixedOrders=tt:=by kernel_rfl
 have hzs:(Value.agg f0b.toArray).cells.size=6:=by kernel_rfl
 have q22:∀(w:World) (a:Option Addr) (n c n' c':Nat),(binOp .eql 39 (.slice a n c) (.slice nO n' c')).run Qr w=.ok (.bool a.isNone) w:=fun w a n c n' c'=>Lib.run_eql_slice_nil w _ _ a n c n' c' QA
 have u22:∀w,Sem.run Qr (underlying 39) w=.ok (TypeDesc.slice 51) w:=run_underlying QA;have A:Aside (∀j u,news[j]?=sm u->w.cell? ⟨b,off+j,nO⟩=sm u):=hc;clear hc
 go_enter Tryz.func89,Tryz.ntmps89
 go_wp2_with (at_builtin;refine wpList_append_own _ rfl _ _ 39 rfl w.heap.size 51 i0 (Value.agg f0b.toArray) 6 48 QA hi0 hz0 hz1 hz2 hzs (by omega) _ _ _ rfl (World.ownsRow_made w #[] 0 (Q4 _) (Nat.zero_le _) (by simp)) ⟨b,off,nO⟩ n c news rfl ?qc1 ?qc2 ?qc3 ?qc4 ?qc5 ?qc6 ?_)
 case qc1=>exact hl
 case qc2 =>
  intro j u hj;rw[Addr.add_lit];exact Lib.cell?_alloc_some _ (A.out j u hj)
 case qc3=>exact h1
 case qc4=>rw[Q2];show n<=9223372036854775807;omega
 case qc5=>rw[Q2];omega
 case qc6=>simp
 intro v' w1 hown hgrow hnil
 go_wp2
 go_ret
 refine⟨v',rfl,by simpa using hown,?_⟩;exact((Below.refl _ w).alloc (Q4 _) _).grown hgrow (by simp) (by intro k hk;simp[Value.ownBlock] at hk;omega)
def a3m:Qq:=⟨[],.stuck,[],sm (d9v 51 6),nO⟩
theorem b4q:SysOk Qr 89 a3m where
 ct _ _ _:=f0Y e4Y Tryz.call89
def z6:List PV:=[.int .i64 0,.int .i64 0,.int .i64 0,.int .i64 0,.int .i64 0,.int .i64 0]
def d4m:List PV->List MO->Option (PV×List MO)
 | [.ref h 0],σ=>match σ[h]? with
  | some (.cells [c0,c1,c2,c3,c4,c5,c6,c7,c8,c9,c10,c11,c12,c13,c14,_,_,.msl hd o n cp sz,c18] T) =>
   if n<=1000000/\σ.all (MO.low σ.length)=tt then
    sm (.tup [],σ.set h (.cells [c0,c1,c2,c3,c4,c5,c6,c7,c8,c9,c10,c11,c12,c13,c14,.msl σ.length 0 n n 6,.msl (σ.length+1) 0 n n 1,.msl hd o n cp sz,c18] T)++[.cells (Q3 n z6).flatten 51,.cells (Q3 n [PV.bool ff]).flatten 4]) else nO
  | _=>nO
 | _,_=>nO
theorem f2D:SysIs Qr 31 c1N:=d0D (c:=(cg [] [] [] tt tt ff tt)) (c5x _ _ _ _ _ _ _ _ _) Tryz.func31 Tryz.call31 (by kernel_rfl) c8Z c1N 5000 rfl (by kernel_rfl) (by kernel_rfl)
theorem f5J(k n:Nat):Qw k (Q3 n z6).flatten=tt:=by
 induction n with
 | zero=>rfl
 | succ n ih=>rw[Qk,Qm];simpa[z6,Qw,PV.low] using ih
theorem f5w(k n:Nat):Qw k (Q3 n [PV.bool ff]).flatten=tt:=by
 induction n with
 | zero=>rfl
 | succ n ih=>rw[Qk,Qm];simpa[Qw,PV.low] using ih
section
variable {Φ:Fns}{ρ:PEnv}{R:Res->Prop}{k:PT}
theorem f6d{n:IE}{zero:List SV}{T size bytes:Nat}{z:List PV}{m:Nat}(h1:SV.pvs ρ noOwn zero=sm z)(h2:n.pe ρ=(m:Int))(h3:m<=1000000)(h4:bytes<=100000000)
  (hk:k.wp Φ {ρ with v:=ρ.v++[.msl ρ.m.length 0 m m size],m:=ρ.m++[.cells (Q3 m z).flatten T]} R):(PT.mkM n zero T size bytes k).wp Φ ρ R:=by
 refine⟨z,h1,?_⟩;rw[h2,Qt ⟨by omega,by omega,h4⟩];exact hk
theorem f6e{a:SV}{cs:List SV}{h off T:Nat}{l new:List PV}(h1:a0H ρ a=sm (.obj h off))(h2:ρ.m[h]?=sm (.cells l T))(h3:SV.pvs ρ noOwn cs=sm new)(h4:off+new.length<=l.length)(hk:k.wp Φ {ρ with m:=ρ.m.set h (.cells (a3Y l off new) T)} R):(PT.storeM a cs k).wp Φ ρ R:=by
 simp only[Qs,h1,h2];exact⟨new,h3,by rw[Qt h4];exact hk⟩
end
theorem f1z{k n:Nat}{c0 c1 c2 c3 c4 c5 c6 c7 c8 c9 c10 c11 c12 c13 c14 d c18:PV}{s:Hp}{B B':Inf}{vs:List Value}(hl:Qw k [c0,c1,c2,c3,c4,c5,c6,c7,c8,c9,c10,c11,c12,c13,c14,d,c18]=tt)(hp:B.take k <+: B')(e1:B'[k]?=B[k+1]?)(e2:B'[k+1]?=B[k]?)
  (h:Reps s B [c0,c1,c2,c3,c4,c5,c6,c7,c8,c9,c10,c11,c12,c13,c14,.msl (k+1) 0 n n 6,.msl k 0 n n 1,d,c18] vs):Reps s B' [c0,c1,c2,c3,c4,c5,c6,c7,c8,c9,c10,c11,c12,c13,c14,.msl k 0 n n 6,.msl (k+1) 0 n n 1,d,c18] vs:=by
 have up:∀{p:PV} {v:Value},Rep s B p v->p.low k=tt->Rep s B' p v:=fun h1 h2=>Rep.mono (fun _ _ _ h=>h) (BLe.pre hp) _ _ (PV.low_rep _ _ h1 h2)
 simp only[Qw,Q5] at hl;obtain⟨a0,a1,a2,a3,a4,a5,a6,a7,a8,a9,a10,a11,a12,a13,a14,a15,a16,-⟩:=hl;rw[Reps] at h;obtain⟨v0,_,rfl,b0,h⟩:=h;rw[Reps] at h;obtain⟨v1,_,rfl,b1,h⟩:=h;rw[Reps] at h;obtain⟨v2,_,rfl,b2,h⟩:=h;rw[Reps] at h;obtain⟨v3,_,rfl,b3,h⟩:=h;rw[Reps] at h;obtain⟨v4,_,rfl,b4,h⟩:=h;rw[Reps] at h;obtain⟨v5,_,rfl,b5,h⟩:=h;rw[Reps] at h;obtain⟨v6,_,rfl,b6,h⟩:=h;rw[Reps] at h;obtain⟨v7,_,rfl,b7,h⟩:=h;rw[Reps] at h;obtain⟨v8,_,rfl,b8,h⟩:=h;rw[Reps] at h;obtain⟨v9,_,rfl,b9,h⟩:=h;rw[Reps] at h;obtain⟨v10,_,rfl,b10,h⟩:=h;rw[Reps] at h;obtain⟨v11,_,rfl,b11,h⟩:=h;rw[Reps] at h;obtain⟨v12,_,rfl,b12,h⟩:=h;rw[Reps] at h;obtain⟨v13,_,rfl,b13,h⟩:=h;rw[Reps] at h;obtain⟨v14,_,rfl,b14,h⟩:=h;rw[Reps] at h;obtain⟨v15,_,rfl,m1,h⟩:=h;rw[Reps] at h;obtain⟨v16,_,rfl,m2,h⟩:=h;rw[Reps] at h;obtain⟨v17,_,rfl,b15,h⟩:=h;rw[Reps] at h;obtain⟨v18,_,rfl,b16,h⟩:=h;simp only[Rep] at m1 m2;rw[<- e1] at m1;rw[<- e2] at m2;refine⟨_,_,rfl,up b0 a0,_,_,rfl,up b1 a1,_,_,rfl,up b2 a2,_,_,rfl,up b3 a3,_,_,rfl,up b4 a4,_,_,rfl,up b5 a5,_,_,rfl,up b6 a6,_,_,rfl,up b7 a7,_,_,rfl,up b8 a8,_,_,rfl,up b9 a9,_,_,rfl,up b10 a10,_,_,rfl,up b11 a11,_,_,rfl,up b12 a12,_,_,rfl,up b13 a13,_,_,rfl,up b14 a14,_,_,rfl,?_,_,_,rfl,?_,_,_,rfl,up b15 a15,_,_,rfl,up b16 a16,h⟩
 ·simp only[Rep];exact m1
 ·simp only[Rep];exact m2
def d9P:Qq:=⟨[],.stuck,[],sm d4m,nO⟩
set_option maxHeartbeats 4000000 in
theorem e9H:SysOk Qr 31 d9P where
 ct Φ hΦ nn aa σ r σ' hh:=by
  change d4m aa σ=sm (r,σ') at hh;unfold d4m at hh;split at hh
  case h_2=>cases hh
  rename_i h;split at hh
  case h_2=>cases hh
  rename_i c0 c1 c2 c3 c4 c5 c6 c7 c8 c9 c10 c11 c12 c13 c14 c15 c16 hd o n cp sz c18 T g0;split at hh
  case isFalse=>cases hh
  rename_i hc;obtain⟨hn,hlow⟩:=hc;simp only[Q0,Q1] at hh;obtain⟨rfl,rfl⟩:=hh;have hlt:=(List.getElem?_eq_some_iff.1 g0).1;have hall:Qw σ.length [c0,c1,c2,c3,c4,c5,c6,c7,c8,c9,c10,c11,c12,c13,c14,c15,c16,.msl hd o n cp sz,c18]=tt:=List.all_eq_true.1 hlow _ (List.mem_of_getElem? g0)
  have hall':Qw σ.length [c0,c1,c2,c3,c4,c5,c6,c7,c8,c9,c10,c11,c12,c13,c14,.msl hd o n cp sz,c18]=tt:=by
   simp only[Qw,Q5] at hall ⊢;obtain⟨a0,a1,a2,a3,a4,a5,a6,a7,a8,a9,a10,a11,a12,a13,a14,a15,a16,a17,a18,-⟩:=hall;exact⟨a0,a1,a2,a3,a4,a5,a6,a7,a8,a9,a10,a11,a12,a13,a14,a17,a18,trivial⟩
  have g1:∀x:MO,(σ++[x])[h]?=sm (.cells [c0,c1,c2,c3,c4,c5,c6,c7,c8,c9,c10,c11,c12,c13,c14,c15,c16,.msl hd o n cp sz,c18] T):=fun x=>by rw[Q6 hlt];exact g0
  have g2:∀x y:MO,(σ++[x]++[y])[h]?=sm (.cells [c0,c1,c2,c3,c4,c5,c6,c7,c8,c9,c10,c11,c12,c13,c14,c15,c16,.msl hd o n cp sz,c18] T):=fun x y=>by rw[Q6 (by simp;omega)];exact g1 x
  have g3:∀(x c:MO),((σ++[x]).set h c)[h]?=sm c:=fun x c=>Qn (by simp;omega)
  have g4:∀(x y c:MO),((σ++[x]++[y]).set h c)[h]?=sm c:=fun x y c=>Qn (by simp;omega)
  have g5:∀(x y c:MO),((σ++[x]).set h c++[y])[h]?=sm c:=fun x y c=>by rw[Q6 (by simp;omega)];exact g3 x c
  have s1:∀(x y c d:MO),((σ++[x]++[y]).set h c).set h d=σ.set h d++[x,y]:=fun x y c d=>by rw[List.set_set,Qp,Q7 _ _ hlt];rfl
  have s2:∀(x y c d:MO),((σ++[x]).set h c++[y]).set h d=σ.set h d++[x,y]:=fun x y c d=>by
   rw[Q7 _ _ hlt,Qp,Q7 _ _ (by simpa using hlt),List.set_set];rfl
  refine Qv (CtD.swap (l2:=[c0,c1,c2,c3,c4,c5,c6,c7,c8,c9,c10,c11,c12,c13,c14,.msl (σ.length+1) 0 n n 6,.msl σ.length 0 n n 1,.msl hd o n cp sz,c18]) (f2D.dm Φ hΦ 1 _ _ (fun r' σ'=>r'=.tup []/\(_\/_)) ⟨([],[],[.ref h 0]),rfl,?_⟩) g0 hlow (f5J _ _) (f5w _ _) rfl (fun s B B' vs q1 q2 q3 q4=>f1z hall' q1 q2 q3 q4) ?_ (fun _ _ hq=>hq))
  ·show Qs _ b4K _ _
   unfold b4K
   repeat' first
    | refine b0d rfl rfl ?_
    | refine f4x ?_ ?_
    | ((refine f3P rfl (f5g (by dsimp only;first|exact g0|exact g1 _) rfl) rfl ?_);(dsimp only[QB,Q8,Q9,Qa,a3Y,Qb,Qd,Qe,IE.pe,BE.pe,Nat.reduceAdd];try simp only[Qf,Qg,Qh,Qj,Q2]))
    | (refine f6d rfl rfl hn (by decide) ?_;(dsimp only[QB,Q8,Q9,Qa,a3Y,Qb,Qd,Qe,IE.pe,BE.pe,Nat.reduceAdd];try simp only[Qf,Qg,Qh,Qj,Q2]))
    | ((refine f6e rfl (by dsimp only;first|exact g0|exact g1 _|exact g2 _ _|exact g3 _ _|exact g4 _ _ _|exact g5 _ _ _) rfl (by simp[]) ?_);(dsimp only[QB,Q8,Q9,Qa,a3Y,Qb,Qd,Qe,IE.pe,BE.pe,Nat.reduceAdd];try simp only[Qf,Qg,Qh,Qj,Q2]))
    | (refine f4m rfl ⟨rfl,?_⟩)
   all_goals simp only[s1,s2]
   all_goals first|exact .inl rfl|exact .inr rfl
  ·have:=PV.lows_mono (show σ.length<=σ.length+2 by omega) _ hall'
   simp only[Qw,Q5,PV.low,decide_eq_true_eq] at this ⊢;obtain⟨a0,a1,a2,a3,a4,a5,a6,a7,a8,a9,a10,a11,a12,a13,a14,a15,a16,-⟩:=this;exact⟨a0,a1,a2,a3,a4,a5,a6,a7,a8,a9,a10,a11,a12,a13,a14,by omega,by omega,a15,a16,trivial⟩
def a5b:Qq:=d9P
theorem d1e:SysOk Qr 31 a5b:=e9H
def tabS:List (Nat×Qq):=[(4,a3f),(7,b2J),(9,c8Y),(10,b4x),(11,a2M),(12,b5t),(13,b2C),(14,b3D),(15,b4M),(16,b6a),(17,b2F),(18,a1y),(19,a4a),(20,b3w),(21,a1T),(23,c1o),(24,b2p),(25,a3e),(26,a4q),(27,b0z),(28,c4E),(29,b5u),(30,c4t),(31,a5b),(32,b2O),(33,a4b),(34,a4S),(35,a2F),(36,b1u),(37,b1q),(38,a9z),(39,a1c),(40,a9p),(41,a9l),(42,a8G),(43,a2i),(44,a5r),(45,a3J),(46,b3l),(47,b2V),(48,a1r),(49,b1Z),(50,a2q),(51,a9C),(52,b4P),(53,b8A),(54,c0U),(55,b2X),(56,b8C),(57,a4M),(58,a5a),(59,a4V),(60,c2M),(61,a4k),(62,a9k),(63,a8P),(64,b0b),(65,a3S),(66,a3s),(67,a5h),(68,a5z),(69,a7w),(70,a6a),(71,a9d),(72,b1A),(73,a1I),(74,a3B),(75,a7S),(76,a4W),(77,b1y),(78,a4N),(79,a8O),(80,c2s),(81,c4l),(82,b0U),(83,a9K),(84,a9N),(85,c1S),(86,b8B),(87,b4R),(88,a3k),(89,a3m),(90,c9a),(91,a3K),(92,a4d),(93,a6X),(94,b0W),(95,b4u),(96,b5B),(97,c2z),(98,a8q),(99,b8z),(100,c2C),(101,a9n),(102,b1G),(103,b3J),(104,b2I),(105,b2b),(106,b1N),(107,a3Q),(108,a0M),(109,a3c),(110,a1z),(111,b0P),(112,b2j),(113,b2c),(114,a6j),(115,a5F),(116,c0Z),(117,a5n),(118,c0V),(119,a9E),(120,a4U),(121,a1q),(122,b2W),(123,c2d),(124,c3q),(125,b4d),(126,c4u),(127,a6g),(128,b2K),(129,c0F),(130,c4r),(131,a3M),(132,b8y),(133,b9v),(134,a7Y),(135,a1a),(136,c9c),(137,c3Z),(138,b5O),(139,b9z),(140,c0H),(141,a1l)]
def Tab(f:Nat):Option Qq:=c0K f tabS
theorem f7O:AllC (fun a=>SysOk Qr a.1 a.2) tabS :=
 .k c4f <| .k c8H <| .k e4F <| .k d3A <| .k c8J <| .k d3W <| .k c9H <| .k d0Q <| .k d3s <| .k d4k <| .k c9T <| .k c9Y <| .k d4h <| .k d0G <| .k c6Z <| .k d1T <| .k d5c <| .k d2x <| .k c9h <| .k d2X <| .k e2B <| .k d4j <| .k e2d <| .k d1e <| .k c9z <| .k d0S <| .k c7v <| .k c0C <| .k d3R <| .k d4e <| .k c4i <| .k c2m <| .k c3L <| .k c3U <| .k c2n <| .k c9s <| .k c9e <| .k c4V <| .k d1i <| .k c8M <| .k d0r <| .k c7X <| .k d0w <| .k c4g <| .k d2N <| .k d5k <| .k d7Q <| .k c9j <| .k d5q <| .k d6U <| .k d4W <| .k c7Z <| .k d9R <| .k d5f <| .k c3P <| .k d7M <| .k d8R <| .k d5o <| .k d2j <| .k b3A <| .k b4C <| .k b9x <| .k b5p <| .k c3I <| .k c7S <| .k c9x <| .k d1l <| .k c1f <| .k c7Y <| .k c7t <| .k d1w <| .k d7U <| .k d9q <| .k e1D <| .k c6q <| .k c4v <| .k c4C <| .k d9r <| .k d4C <| .k d2P <| .k d5j <| .k b4q <| .k e4u <| .k d2m <| .k d3K <| .k e3n <| .k e0C <| .k d3f <| .k d3V <| .k d9f <| .k d9H <| .k d5x <| .k e0b <| .k e1X <| .k c7q <| .k d0E <| .k c8N <| .k c7C <| .k c8b <| .k c2F <| .k c3F <| .k c7k <| .k c8d <| .k c6O <| .k c7O <| .k c7M <| .k d3e <| .k d9e <| .k d8w <| .k d8h <| .k d8z <| .k c4h <| .k c7H <| .k d7h <| .k c8I <| .k d9i <| .k d9X <| .k e4E <| .k e1M <| .k d3v <| .k c9B <| .k d1t <| .k e1Y <| .k d2G <| .k d5h <| .k d7i <| .k d2l <| .k d3L <| .k e4T <| .k e0E <| .k d3Q <| .k d6O <| .k d7L <| .k d6X <| .e
theorem f0k:∀f S,Tab f=sm S->SysOk Qr f S:=fun _ _ h=>f7O.mem (c6Q h)
theorem tbl(n:Nat)(S:Qq)(h:Tab n=sm S:=by kernel_rfl):Tab n=sm S:=h
def c3V:=tbl 4 a3f
def c7I:=tbl 7 b2J
def d3E:=tbl 9 c8Y
def b9R:=tbl 10 b4x
def c7N:=tbl 11 a2M
def d2s:=tbl 12 b5t
def c8f:=tbl 13 b2C
def c9G:=tbl 14 b3D
def d1G:=tbl 15 b4M
def d3k:=tbl 16 b6a
def c8c:=tbl 17 b2F
def c7D:=tbl 18 a1y
def d2e:=tbl 19 a4a
def c9k:=tbl 20 b3w
def c5f:=tbl 21 a1T
def d3N:=tbl 24 b2p
def d0u:=tbl 25 a3e
def c7n:=tbl 26 a4q
def d0L:=tbl 27 b0z
def d9C:=tbl 28 c4E
def d3l:=tbl 29 b5u
def d8V:=tbl 30 c4t
def c0w:=tbl 31 a5b
def c7R:=tbl 32 b2O
def c9X:=tbl 33 a4b
def c6z:=tbl 34 a4S
def c0A:=tbl 35 a2F
def d3b:=tbl 36 b1u
def d2r:=tbl 37 b1q
def c3Q:=tbl 38 a9z
def c1F:=tbl 39 a1c
def c2B:=tbl 40 a9p
def c1Q:=tbl 41 a9l
def c1B:=tbl 42 a8G
def c7A:=tbl 43 a2i
def c7y:=tbl 44 a5r
def c4z:=tbl 45 a3J
def c9C:=tbl 46 b3l
def c7J:=tbl 47 b2V
def c9V:=tbl 48 a1r
def c6h:=tbl 49 b1Z
def b8P:=tbl 50 a2q
def c3S:=tbl 51 a9C
def d0V:=tbl 52 b4P
def d3Y:=tbl 53 b8A
def d6Q:=tbl 54 c0U
def c8i:=tbl 55 b2X
def d3O:=tbl 56 b8C
def d5p:=tbl 57 a4M
def d3X:=tbl 58 a5a
def c6V:=tbl 59 a4V
def d8m:=tbl 60 c2M
def d4d:=tbl 61 a4k
def c3o:=tbl 62 a9k
def d7j:=tbl 63 a8P
def d8t:=tbl 64 b0b
def d4g:=tbl 65 a3S
def d1Z:=tbl 66 a3s
def b3s:=tbl 67 a5h
def b4I:=tbl 68 a5z
def b9H:=tbl 69 a7w
def b5N:=tbl 70 a6a
def c2Z:=tbl 71 a9d
def c6T:=tbl 72 b1A
def c7P:=tbl 73 a1I
def c9l:=tbl 74 a3B
def b0F:=tbl 75 a7S
def c6x:=tbl 76 a4W
def c6g:=tbl 77 b1y
def c9i:=tbl 78 a4N
def d6S:=tbl 79 a8O
def d8e:=tbl 80 c2s
def d8T:=tbl 81 c4l
def c5c:=tbl 82 b0U
def c3D:=tbl 83 a9K
def c3K:=tbl 84 a9N
def d7T:=tbl 85 c1S
def d3U:=tbl 86 b8B
def d0K:=tbl 87 b4R
def d3P:=tbl 88 a3k
def b4Q:=tbl 89 a3m
def e3u:=tbl 90 c9a
def d1K:=tbl 91 a3K
def d2H:=tbl 92 a4d
def e0B:=tbl 93 a6X
def d9b:=tbl 94 b0W
def d1V:=tbl 95 b4u
def d2E:=tbl 96 b5B
def d7P:=tbl 97 c2z
def d8l:=tbl 98 a8q
def d3T:=tbl 99 b8z
def d8b:=tbl 100 c2C
def d9s:=tbl 101 a9n
def c7e:=tbl 102 b1G
def c9Q:=tbl 103 b3J
def c7E:=tbl 104 b2I
def c6j:=tbl 105 b2b
def c6e:=tbl 106 b1N
def c1C:=tbl 107 a3Q
def c3t:=tbl 108 a0M
def c5e:=tbl 109 a3c
def c6m:=tbl 110 a1z
def c4T:=tbl 111 b0P
def c7j:=tbl 112 b2j
def c6p:=tbl 113 b2c
def d1A:=tbl 114 a6j
def d8E:=tbl 115 a5F
def d7c:=tbl 116 c0Z
def d6Y:=tbl 117 a5n
def d7e:=tbl 118 c0V
def c3G:=tbl 119 a9E
def c6D:=tbl 120 a4U
def d4R:=tbl 121 a1q
def c7U:=tbl 122 b2W
def d8d:=tbl 123 c2d
def d8x:=tbl 124 c3q
def e3y:=tbl 125 b4d
def d9B:=tbl 126 c4u
def d0d:=tbl 127 a6g
def c7B:=tbl 128 b2K
def d9t:=tbl 130 c4r
def c0t:=tbl 131 a3M
def d4c:=tbl 132 b8y
def d4o:=tbl 133 b9v
def d1d:=tbl 134 a7Y
def d2D:=tbl 135 a1a
def e3k:=tbl 136 c9c
def d8Y:=tbl 137 c3Z
def d2q:=tbl 138 b5O
def d4T:=tbl 139 b9z
def d6Z:=tbl 140 c0H
def d4Z:=tbl 141 a1l
end Go.Proofs.YtmekflfjaflmkaaGreat
