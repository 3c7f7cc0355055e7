/- The trees of this seat's functions, part 0. Written by txgen.py. -/
import Derived.Test.YtmekflfjaflmkaaGreatHTxd
import Derived.Shelf.RegionOpenPlain
import Derived.WalkKit
import Derived.Deep.LoopGhost
import Derived.Deep.RegionLaw
import Derived.Lib.Walk
import Derived.Sort.WalkB12
import Derived.Lib.SliceRun
set_option linter.unusedSimpArgs false
set_option linter.unusedVariables false
set_option linter.unusedSectionVars false
set_option linter.defProp false
open Go.Sx.PT renaming need → nD, jump → jU, load → lO, call → cA
open Option.some renaming injEq → Q0
open Prod.mk renaming injEq → Q1
open Nat renaming zero_add → Q2, le_refl → Q4
open List renaming replicate → Q3, getElem?_append_left → Q6, set_append_left → Q7, cons_append → Q8, nil_append → Q9, append_nil → Qa, take → Qb, drop → Qd, length → Qe, length_set → Qf, length_append → Qg, length_cons → Qh, length_nil → Qj, replicate_succ → Qk, flatten_cons → Qm, getElem?_set_self → Qn, append_assoc → Qp
open Bool renaming and_eq_true → Q5
open Go.Sx renaming Sys → Qq
open Go.Proofs.Tryz renaming prog → Qr, underlying39 → QA
open Go.Sx.PT renaming wp → Qs
open _root_ renaming if_pos → Qt
open Go.Sx.PV renaming rowsOf → Qu, lows → Qw, nilOk → Qz
open Go.Sx.CtD renaming one → Qv
open Go.Sx.BE renaming safe → Qy
open Go.Sx.PEnv renaming push → QB
open Bool renaming false → ff, true → tt
open Option renaming some → sm, none → nO
set_option maxRecDepth 100000
namespace Go.Proofs.YtmekflfjaflmkaaGreat
open Go.Sx
open Tryz
abbrev a1j:SV:=(.va 0)
abbrev a0J:List SV:=[a1j]
abbrev a2W:List Kd:=[jD,jD,jD,jD,jD,jD]
abbrev a2n:List Sh:=[(.agg a2W)]
abbrev a0v:IE:=(.a 10)
abbrev a0p:IE:=(.a 4)
abbrev a0z:IE:=(.a 11)
abbrev a0t:IE:=(.a 5)
abbrev a0D:IE:=(.a 12)
abbrev a0u:IE:=(.a 6)
abbrev a0y:IE:=(.a 13)
abbrev a0l:IE:=(.a 7)
abbrev a0B:IE:=(.a 14)
abbrev a0o:IE:=(.a 8)
abbrev a0C:IE:=(.a 15)
abbrev a0r:IE:=(.a 9)
abbrev b2N:BE:=(.is 0 5)
abbrev a7e:Sh:=(.one jD)
abbrev a0W:List Sh:=[a7e]
abbrev a0N:IE:=(.a 16)
abbrev a7t:IE:=(.slen 5)
abbrev b5T:Sh:=(.one .bool)
abbrev a1A:List Sh:=[b5T]
abbrev a5W:BE:=(.a 1)
abbrev a3E:BE:=(.a 0)
abbrev d1n:BE:=(.not a5W)
abbrev a4h:BE:=(.not a3E)
abbrev a3x:List Sh:=[(.one .val)]
abbrev a7o:SV:=(.va 9)
abbrev a1S:SV:=(.va 5)
abbrev c3N:IE:=(.l (-1))
abbrev a0d:IE:=(.a 0)
abbrev a0k:IE:=(.a 1)
abbrev a0f:IE:=(.a 2)
abbrev a0g:IE:=(.a 3)
abbrev a6Z:List BE:=[a3E]
abbrev a0Q:SV:=(.va 1)
abbrev a1f:SV:=(.va 2)
abbrev a1d:SV:=(.va 3)
abbrev a1i:SV:=(.va 4)
abbrev a1G:SV:=(.va 6)
abbrev a2J:SV:=(.va 7)
abbrev a3U:SV:=(.va 8)
abbrev a7D:List SV:=[a1j,a0Q,a1f,a1d,a1i,a1S,a1G,a2J,a3U]
abbrev a1L:SV:=(jA 0)
abbrev c1x:List SV:=[a1j,a1L]
abbrev a1P:SV:=(jA 1)
abbrev a1N:SV:=(jA 2)
abbrev a1E:SV:=(jA 3)
abbrev a2Y:SV:=(jA 4)
abbrev a2u:SV:=(jA 5)
abbrev a2h:SV:=(jA 6)
abbrev a2k:SV:=(jA 7)
abbrev a2s:SV:=(jA 8)
abbrev a2f:SV:=(jA 9)
abbrev a2r:SV:=(jA 10)
abbrev b3K:SV:=(.bool a3E)
abbrev e4e:List SV:=[a0Q,a1f,a1d,a1i,a1P,a1N,a1E,a2Y,a1S,a2u,a2h,a2k,a2s,a2f,a2r,a1G,a2J,a3U,b3K]
abbrev a0q:IE:=(.l 0)
abbrev a7s:SV:=(.va 10)
abbrev b1e:SV:=(.bool (.t tt))
abbrev a4C:PT:=(.ret ff b1e [])
abbrev a3Z:BE:=(.is 0 1)
abbrev a0P:IE:=(.slen 1)
abbrev c7d:BE:=(treeI a0k a0P)
abbrev a2Q:IE:=(.slen 2)
abbrev c7m:BE:=(treeI a0k a2Q)
abbrev c3X:List Kd:=[jD,jD,jD,jD,jD,jD,jD,jD,jD,jD,jD,jD]
abbrev a2A:IE:=(.a 24)
abbrev a4D:IE:=(.a 25)
abbrev a8h:IE:=(.a 26)
abbrev a4c:IE:=(.a 27)
abbrev b9f:IE:=(.a 17)
abbrev a0T:IE:=(.a 18)
abbrev a0X:IE:=(.a 19)
abbrev a1m:IE:=(.a 20)
abbrev a1b:IE:=(.a 21)
abbrev a1B:IE:=(.a 22)
abbrev a1F:IE:=(.a 23)
abbrev a1X:IE:=(jP 1)
abbrev a1M:BE:=(treeB a1X)
abbrev a1u:List IE:=[a0d,a1X,a0f,a0g,a0p,a0t,a0u,a0l,a0o,a0r,a0v,a0z]
abbrev f0x:IE:=(jP 0)
abbrev a1R:BE:=(treeB f0x)
abbrev a2c:BE:=(.is 0 0)
abbrev a1p:BE:=(.lt a0k a0d)
abbrev a8b:IE:=(.slen 0)
abbrev a2H:BE:=(treeI a0k a8b)
abbrev a3T:SV:=(.ea 0 a0k 5 0)
abbrev d9m:List Kd:=[.val,jD,jD,jD,jD]
abbrev d0U:IE:=(.l 5)
abbrev a3w:BE:=(.eq a0k d0U)
abbrev d1F:IE:=(.l 6)
abbrev a4P:IE:=(.l 4)
abbrev a2C:BE:=(.eq a0k a4P)
abbrev d0i:IE:=(.l 3)
abbrev a2I:BE:=(.eq a0k d0i)
abbrev d0c:IE:=(.l 2)
abbrev a2Z:BE:=(.eq a0k d0c)
abbrev d1O:IE:=(.l 1)
abbrev a1n:BE:=(.eq a0k d1O)
abbrev c5z:BE:=(.eq a0k a0q)
abbrev b4j:List SV:=[a1N,a1E,a2Y,a2u,a2h,a2k]
abbrev b0a:SV:=(.agg b4j)
abbrev c2G:PT:=(.ret ff b0a [])
abbrev e0l:BE:=(.is 4 0)
abbrev b4c:BE:=(.nil 0)
abbrev a9Y:PT:=(.ret tt (jE 6) [])
abbrev c5L:BE:=(.lt a0d a0q)
abbrev b6x:PT:=(.ret tt (jE 4) [])
abbrev e1G:BE:=(.is 1 0)
abbrev a1k:SV:=(.pa 0 8)
abbrev a5K:List Kd:=[.val]
abbrev a0R:BE:=(.is 0 2)
abbrev a7E:SV:=(.pa 0 18)
abbrev c0h:List Kd:=[.bool]
abbrev b0j:BE:=(.is 0 3)
abbrev b1d:IE:=(.slen 3)
abbrev a3W:IE:=(.slen 4)
abbrev a3b:SV:=(.pa 0 9)
abbrev b3U:List SV:=[a1P,a1N,a1E,a2Y,a2u,a2h]
abbrev b2w:SV:=(.bool (.t ff))
abbrev a3H:List SV:=[b2w]
abbrev a1h:SV:=(jE 0)
abbrev a0O:PT:=(.ret tt a1h [])
abbrev d1L:PT:=(nD e1G (.storeM a7E a3H a0O))
abbrev e7g:PT:=(cA 31 a0J [] [] (nD e1G (lO ff a1k a5K (nD b0j (.ite (.lt a0d b1d) (nD e1G (lO ff a1k a5K (nD (treeI a0d a3W) (lO ff (.ea 4 a0d 9 0) a2W (nD e1G (.storeM a3b b3U (nD e1G (lO ff a1k a5K (.cut 5 nO (sm (.a 0)) 9 (cA 62 [a1G] [] a3x (nD e1G (.storeM a1k [a2J] d1L)))))))))))) d1L)))))
abbrev e5R:BE:=(.le a0q a0d)
abbrev d1q:SV:=(.va 11)
abbrev b1b:PT:=(.ret ff a1j [])
abbrev d5B:BE:=(.eq a8b a0q)
abbrev d0p:PT:=(.ret ff (jE 1) [])
abbrev d6w:PT:=(.ret ff (jE 3) [])
abbrev b4o:PT:=(jU 0 [a0q] [] a0J)
abbrev e0Z:BE:=(.lt a0d a8b)
abbrev b6b:BE:=(treeI a0d a8b)
abbrev a1U:PT:=(.ret ff (jE 5) [])
abbrev d6h:PT:=(.ret ff (jE 7) [])
abbrev c0g:List IE:=[a0d,a1X]
abbrev b6o:PT:=(.ret ff (jE 4) [])
abbrev a1e:BE:=(.lt a4P a0f)
abbrev c0o:BE:=(.lt a0g a0q)
abbrev b6p:IE:=(.l 1000000)
abbrev a8T:BE:=(.lt b6p a0g)
abbrev d6m:BE:=(.lt a0p a0q)
abbrev b6f:BE:=(.lt a0t a0q)
abbrev d1s:PT:=(nD a1R (jU 0 [f0x] [] a0J))
abbrev d1f:BE:=(.lt a0k a8b)
abbrev b6e:List Kd:=[jD]
abbrev a0K:BE:=(treeB (jP 2))
abbrev a8l:PT:=(.ret ff a1h [])
abbrev a3z:List SV:=[a1h,a1h,a1h,a1h,a1h,a1h]
abbrev a1w:PT:=(.ret tt a0Q [])
abbrev d6x:SV:=(.pa 0 17)
abbrev b2P:SV:=(.ea 0 a0k 6 0)
abbrev c2f:List SV:=[a1j,a0Q]
abbrev a5J:PT:=(nD a1M (jU 0 c0g [] c2f))
abbrev d5Z:PT:=(.ret ff .nilS [])
abbrev d1m:PT:=(.ret ff a1f [])
abbrev d6G:BE:=(.is 0 7)
abbrev b0f:IE:=(.slen 7)
abbrev a6K:SV:=(.agg [a1j,a0Q,a1f,a1d,a1L,a1P,a1N,a1E,a1i,a2Y,a2u,a2h,a2k,a2s,a2f,a3U,a7o,a2J,b3K])
abbrev e8i:PT:=(cA 121 [a1G] [] [(.agg [.val,.val]),b5T] (.ret ff b3K []))
abbrev e1r:BE:=(.is 0 4)
abbrev a6f:PT:=(jU 0 [a0q,a0d,a0k,a0f,a0g,a0p,a0t,a0u,a0l,a0o,a0r,a0v,a0z,a0D,a0y,a0B,a0C,a0N,b9f,a0T,a0X,a1m,a1b,a1B,a1F] [] [])
abbrev e6X:BE:=(.lt a0d d1F)
abbrev d6F:BE:=(.eq a0d d0U)
abbrev d1E:PT:=(jU 0 [d1F,a0k,a0f,a0g,a0p,a0t,a0u,a0l,a0o,a0r,a0v,a0z,a0D,a0y,a0B,a0C,a0N,b9f,a0T,a0X,a1m,a1b,a1B,a1F,a2A] [] [])
abbrev e2t:BE:=(.eq a0d a4P)
abbrev d0n:PT:=(jU 0 [d0U,a0k,a0f,a0g,a0p,a0t,a0u,a0l,a0o,a0r,a0v,a0z,a0D,a0y,a0B,a0C,a0N,b9f,a0T,a0X,a1m,a1b,a1B,a1F,a2A] [] [])
abbrev e2D:BE:=(.eq a0d d0i)
abbrev b6n:PT:=(jU 0 [a4P,a0k,a0f,a0g,a0p,a0t,a0u,a0l,a0o,a0r,a0v,a0z,a0D,a0y,a0B,a0C,a0N,b9f,a0T,a0X,a1m,a1b,a1B,a1F,a2A] [] [])
abbrev e0U:BE:=(.eq a0d d0c)
abbrev b4g:PT:=(jU 0 [d0i,a0k,a0f,a0g,a0p,a0t,a0u,a0l,a0o,a0r,a0v,a0z,a0D,a0y,a0B,a0C,a0N,b9f,a0T,a0X,a1m,a1b,a1B,a1F,a2A] [] [])
abbrev e2c:BE:=(.eq a0d d1O)
abbrev b3X:PT:=(jU 0 [d0c,a0k,a0f,a0g,a0p,a0t,a0u,a0l,a0o,a0r,a0v,a0z,a0D,a0y,a0B,a0C,a0N,b9f,a0T,a0X,a1m,a1b,a1B,a1F,a2A] [] [])
abbrev e1f:BE:=(.eq a0d a0q)
abbrev b4k:PT:=(jU 0 [d1O,a0k,a0f,a0g,a0p,a0t,a0u,a0l,a0o,a0r,a0v,a0z,a0D,a0y,a0B,a0C,a0N,b9f,a0T,a0X,a1m,a1b,a1B,a1F,a2A] [] [])
abbrev e1Z:List SV:=[a1j,a0Q,a1f,a1d]
abbrev a0E:SV:=(.agg e1Z)
abbrev a3h:BE:=(treeI a0d a0P)
abbrev a2R:SV:=(.ea 0 a0k 12 6)
abbrev e2h:List SV:=[a1j,a0Q,a1f,a1d,a1i]
abbrev d1u:PT:=(.ret ff a1L [])
abbrev d6o:List Kd:=[jD,jD,jD]
abbrev b3V:BE:=(.eq a0B d0U)
abbrev c2H:IE:=(.sub a0l a0N)
abbrev c2b:BE:=(.eq a0B a4P)
abbrev c2N:BE:=(.eq a0B d0i)
abbrev c2e:BE:=(.eq a0B d0c)
abbrev c2c:BE:=(.eq a0B d1O)
abbrev c2S:BE:=(.eq a0B a0q)
abbrev b4a:IE:=(.sub a0u a0N)
abbrev c3g:IE:=(.sub a0t a0N)
abbrev c1Z:IE:=(.sub a0p a0N)
abbrev c2y:IE:=(.sub a0g a0N)
abbrev c1R:IE:=(.sub a0f a0N)
abbrev c3d:SV:=(jA 11)
abbrev a2L:SV:=(jA 12)
abbrev a4J:SV:=(jA 13)
abbrev a5t:List SV:=[a2s,a2f,a2r,c3d,a2L,a4J]
abbrev b9U:SV:=(.agg a5t)
abbrev b2s:BE:=(.eq a0u a0q)
abbrev c2L:List SV:=[a1L,a1P,a1N,a1E,a2Y,a2u]
abbrev e1K:SV:=(.agg c2L)
abbrev b2Y:BE:=(.eq a0l a0q)
abbrev d6s:BE:=(.not b2Y)
abbrev c0i:BE:=(.lt a0f a0k)
abbrev b6k:BE:=(treeI a0f a0P)
abbrev c2l:List SV:=[(.agg [a1f,a2f,a2r,c3d,a2L])]
abbrev c5R:BE:=(.eq a0f a0q)
abbrev d1H:BE:=(.lt a0k a0q)
abbrev c5C:BE:=(.lt a0f a0q)
abbrev c0j:SV:=(.agg [a2h,a2k,a2s,a2f,a2r,c3d])
abbrev c0x:BE:=(.eq a0D a0q)
abbrev d1U:List SV:=[a1E,a2Y,a2u,a2h,a2k,a2s]
abbrev b6g:SV:=(.agg d1U)
abbrev e6z:PT:=(.ret tt (.tup [b2w,a2f]) [])
abbrev e5L:List Sh:=[b5T,a7e]
abbrev d0t:BE:=(.not e1f)
abbrev c1Y:PT:=(.ret ff a1P [])
abbrev c5y:PT:=(.ret tt (jE 10) [])
abbrev c0c:BE:=(.lt (.l 8) a8b)
abbrev b0X:BE:=(.lt a4P a0g)
abbrev b1a:SV:=(jA 14)
abbrev a5S:SV:=(jA 15)
abbrev e1x:SV:=(jA 16)
abbrev c0z:SV:=(jA 17)
abbrev b9S:List SV:=[a2L,a4J,b1a,a5S,e1x,c0z]
abbrev b3Z:BE:=(.is 3 0)
abbrev c0v:IE:=(.stl 0)
abbrev e6d:BE:=(treeI a0d c0v)
abbrev d5U:IE:=(.sat 0 a0d)
abbrev e1L:PT:=(.ite e1f rF (nD b3Z (nD e6d (.ite (.not (.eq d5U (.l 95))) (nD b3Z (nD e6d (.ite (.lt d5U (.l 48)) rF (nD b3Z (nD e6d (.ite (.lt (.l 57) d5U) rF d1s)))))) d1s))))
abbrev a6i:SV:=(.agg [a1j,a0Q,a1f,a1d,a1L,a1i])
abbrev a7K:List SV:=[a6i,(.agg [a1P,a1N,a1E,a2Y,a2u,a2h,a2k,a2s,a2f,a2r,c3d,a2L])]
abbrev a8U:SV:=(.bool a5W)
abbrev a4H:IE:=(.sub a0T (.mn (.sub a0T a2A) (.mx (.sub a0D a0u) a0q)))
abbrev a4K:IE:=(.sub b9f (.mn (.sub b9f a1F) (.mx (.sub a0z a0t) a0q)))
abbrev a5Q:IE:=(.sub a0N (.mn (.sub a0N a1B) (.mx (.sub a0v a0p) a0q)))
abbrev a6E:IE:=(.sub a0C (.mn (.sub a0C a1b) (.mx (.sub a0r a0g) a0q)))
abbrev a8Q:IE:=(.sub a0B (.mn (.sub a0B a1m) (.mx (.sub a0o a0f) a0q)))
abbrev b3Y:IE:=(.sub a0y (.mn (.sub a0y a0X) (.mx (.sub a0l a0k) a0q)))
abbrev e5K:SV:=(jA 19)
abbrev d5V:SV:=(jA 20)
abbrev e1z:SV:=(jA 21)
abbrev b6m:SV:=(jA 22)
abbrev d5G:SV:=(jA 23)
abbrev c5Q:List SV:=[e5K,d5V,e1z,b6m,d5G,(jA 24)]
abbrev e2l:IE:=(.mul (.mul (.mul d1O f0x) a1X) (jP 2))
abbrev d6B:BE:=(treeB (jP 3))
abbrev d6A:IE:=(.mul (.mul e2l (jP 3)) (jP 4))
abbrev c3n:IE:=(jP 5)
abbrev b9Z:BE:=(treeB c3n)
abbrev b1c:PT:=(jU 0 [a0q] [] c2f)
abbrev c2x:List SV:=[a1j,a0Q,a1f]
abbrev d0j:SV:=(.agg [a2f,a2r,c3d,a2L,a4J,b1a])
abbrev d0T:SV:=(jA 18)
abbrev e8x:SV:=(.agg [a5S,e1x,c0z,d0T,e5K,d5V])
abbrev e8l:SV:=(.agg [e1z,b6m,d5G,(jA 24),(jA 25),(jA 26)])
abbrev e0F:IE:=(.sub (.add a4c (.a 28)) (.a 29))
abbrev e8n:IE:=(.sub (.add (.a 28) a4c) (.a 29))
abbrev e6r:IE:=(.sub (.add (.a 29) a4c) (.a 28))
abbrev e7U:SV:=(.ea 0 a0k 12 0)
abbrev e7n:PT:=(nD (treeB (jP 4)) (jU 4 [a0d,a0k,a0f,a0g,(jP 4)] a6Z c2x))
abbrev e7O:List IE:=[a0d,a0k,(jP 2)]
abbrev e6c:PT:=(.ite (.le (.l 97) a0d) (.ret ff (.bool (.le a0d (.l 122))) []) rF)
abbrev c0a:BE:=(.eq a0v a0q)
abbrev e2u:SV:=(.agg [a1j,a0Q,a1f,a1d,a1L,a1P,a1N,a1E,a1i,a2Y,a2u,a2h,a2k,a2s,a2f,a1S,a1G,a2J,b3K])
abbrev e1j:List SV:=[a4J,b1a,a5S,e1x,c0z,d0T]
abbrev b9Y:List Kd:=[.val,.val,.val,.val,jD,jD,jD,jD,.val,jD,jD,jD,jD,jD,jD,.val,.val,.val,.bool]
abbrev d6n:List Sh:=[(.agg b9Y),a7e]
abbrev a7N:SV:=(.va 12)
abbrev b0c:SV:=(.va 13)
abbrev e2E:SV:=(.va 14)
abbrev a4L:SV:=(.va 15)
abbrev c5T:SV:=(.agg [a3U,a7o,a7s,d1q,e5K,d5V,e1z,b6m,a7N,d5G,(jA 24),(jA 25),(jA 26),(jA 27),(jA 28),b0c,e2E,a4L,a8U])
abbrev d0W:PT:=(.ret ff (.tup [c5T,b2w,(jA 29)]) [])
abbrev d1J:BE:=(.eq (.a 29) a0q)
abbrev e5Z:PT:=(.ret ff a2k [])
abbrev e7J:PT:=(.ret ff (jE 6) [])
abbrev e6k:SV:=(.agg b3U)
abbrev d5A:BE:=(.lt a0k d1F)
abbrev e6h:PT:=(.ret ff (jE 14) [])
abbrev c5K:SV:=(.ea 1 a0d 4 1)
abbrev e6w:List IE:=[a0d,d1F,a0f,a0g,a0p,a0t,a0u,a0l,a0o,a0r,a0v,a0z,a0D,a0y,a0B,a0C,a0N,b9f,a0T,a0X,a1m,a1b,a1B,a1F,a2A,a4D]
abbrev c5O:PT:=(jU 0 e6w [] e1Z)
abbrev b0g:BE:=(.not (.eq a0T a0q))
abbrev c3s:List IE:=[a0d,d0U,a0f,a0g,a0p,a0t,a0u,a0l,a0o,a0r,a0v,a0z,a0D,a0y,a0B,a0C,a0N,b9f,a0T,a0X,a1m,a1b,a1B,a1F,a2A,a4D]
abbrev e7j:PT:=(jU 0 c3s [] e1Z)
abbrev d0F:BE:=(.eq b9f a0q)
abbrev e0D:List IE:=[a0d,a4P,a0f,a0g,a0p,a0t,a0u,a0l,a0o,a0r,a0v,a0z,a0D,a0y,a0B,a0C,a0N,b9f,a0T,a0X,a1m,a1b,a1B,a1F,a2A,a4D]
abbrev d5Y:PT:=(jU 0 e0D [] e1Z)
abbrev a6h:BE:=(.not (.eq a0N a0q))
abbrev b2L:List IE:=[a0d,d0i,a0f,a0g,a0p,a0t,a0u,a0l,a0o,a0r,a0v,a0z,a0D,a0y,a0B,a0C,a0N,b9f,a0T,a0X,a1m,a1b,a1B,a1F,a2A,a4D]
abbrev d0a:PT:=(jU 0 b2L [] e1Z)
abbrev a7G:List IE:=[a0d,d0c,a0f,a0g,a0p,a0t,a0u,a0l,a0o,a0r,a0v,a0z,a0D,a0y,a0B,a0C,a0N,b9f,a0T,a0X,a1m,a1b,a1B,a1F,a2A,a4D]
abbrev b0Y:PT:=(jU 0 a7G [] e1Z)
abbrev e2o:BE:=(.not c2S)
abbrev e2y:List IE:=[a0d,d1O,a0f,a0g,a0p,a0t,a0u,a0l,a0o,a0r,a0v,a0z,a0D,a0y,a0B,a0C,a0N,b9f,a0T,a0X,a1m,a1b,a1B,a1F,a2A,a4D]
abbrev e1O:PT:=(jU 0 e2y [] e1Z)
abbrev e0z:List IE:=[a0d,a0q,a0f,a0g,a0p,a0t,a0u,a0l]
abbrev e1E:List IE:=[a0d,a1X,a0f,a0g,a0p,a0t,a0u,a0l]
abbrev d1Q:PT:=(.ite (.lt a0v a0y) e6h (nD a1M (jU 1 e1E [] e1Z)))
abbrev e0k:BE:=(.lt a0d d1O)
abbrev e2s:BE:=(.lt a0g d1O)
abbrev d6u:PT:=(.ite e0k b6o (.ite (.lt b6p a0d) b6o (.ite d1H b6o (.ite (.lt (.l 100) a0k) b6o (.ite (.lt a0f d1O) b6o (.ite (.lt d0i a0f) b6o (.ite e2s b6o (.ite (.lt d0i a0g) b6o a8l))))))))
abbrev e1o:SV:=(.pa 0 15)
abbrev e1c:SV:=(.pa 0 16)
abbrev e1N:List Kd:=[jD,jD,jD,jD,jD,jD,.val,.val,.val]
abbrev e2k:PT:=(nD a3Z (.ret ff (.bool (.lt a0d a0P)) []))
abbrev c2h:List SV:=[(.agg [a1L,a1P,a1N,a1E])]
abbrev e0f:SV:=(.agg a3z)
abbrev e0j:List SV:=[c3d,a2L,a4J,b1a,a5S,e1x]
abbrev e0w:List SV:=[(.agg e0j)]
abbrev d1x:PT:=(jU 0 [a0d,a0k,a0f,a0g,a0p,a0t,d1F,a0l,a0o,a0r,a0v,a0z,a0D,a0y,a0B,a0C,a0N,b9f,a0T,a0X,a1m,a1b,a1B] [] a0J)
abbrev e6P:PT:=(jU 0 [a0d,a0k,a0f,a0g,a0p,a0t,d0U,a0l,a0o,a0r,a0v,a0z,a0D,a0y,a0B,a0C,a0N,b9f,a0T,a0X,a1m,a1b,a1B] [] a0J)
abbrev d5J:PT:=(jU 0 [a0d,a0k,a0f,a0g,a0p,a0t,a4P,a0l,a0o,a0r,a0v,a0z,a0D,a0y,a0B,a0C,a0N,b9f,a0T,a0X,a1m,a1b,a1B] [] a0J)
abbrev d6D:PT:=(jU 0 [a0d,a0k,a0f,a0g,a0p,a0t,d0i,a0l,a0o,a0r,a0v,a0z,a0D,a0y,a0B,a0C,a0N,b9f,a0T,a0X,a1m,a1b,a1B] [] a0J)
abbrev e7F:PT:=(jU 0 [a0d,a0k,a0f,a0g,a0p,a0t,d0c,a0l,a0o,a0r,a0v,a0z,a0D,a0y,a0B,a0C,a0N,b9f,a0T,a0X,a1m,a1b,a1B] [] a0J)
abbrev a7F:PT:=(jU 0 [a0d,a0k,a0f,a0g,a0p,a0t,d1O,a0l,a0o,a0r,a0v,a0z,a0D,a0y,a0B,a0C,a0N,b9f,a0T,a0X,a1m,a1b,a1B] [] a0J)
abbrev c3c:PT:=(.ret ff (.tup [e0f,(jE 4)]) [])
abbrev e1F:SV:=(.agg [c0z,d0T,e5K,d5V,e1z,b6m])
abbrev e0o:PT:=(.ret ff (.tup [e1F,a1h]) [])
abbrev d0g:PT:=(nD a2c (.ite b4c d5Z (.app nO (.lit []) 3 (.app (sm 1) (.va 0) 3 d1m))))
abbrev d0A:PT:=(.ite c5L b6o (.ite (.lt a4P a0d) b6o (.ite d1H b6o (.ite (.lt a4P a0k) b6o (.ite c5C b6o (.ite a1e b6o (.ite c0o b6o (.ite b0X b6o (.ite d6m b6o (.ite (.lt a4P a0p) b6o (.ite b6f b6o (.ite (.lt a4P a0t) b6o a8l))))))))))))
abbrev c0k:PT:=(nD a2c (jU 0 [a8b,a0q] [] [a0Q,a1j]))
abbrev c2I:PT:=(nD (.is 3 2) (nD b3Z (.ite (.seq 2 0) (.ret ff (.tup [a1P,b1e]) []) a5J)))
abbrev e7u:PT:=(.ret ff (.tup [a1h,b2w]) [])
abbrev e6p:SV:=(.ea 0 a0d 6 5)
abbrev e7s:PT:=(jU 0 [a0d,d1F,a0f,a0g,a0p,a0t,a0u,a0l,a0o,a0r,a0v,a0z,a0D,a0y,a0B,a0C,a0N,b9f,a0T,a0X] [] a0J)
abbrev e7Y:SV:=(.ea 0 a0d 6 4)
abbrev e7a:PT:=(jU 0 [a0d,d0U,a0f,a0g,a0p,a0t,a0u,a0l,a0o,a0r,a0v,a0z,a0D,a0y,a0B,a0C,a0N,b9f,a0T,a0X] [] a0J)
abbrev e8b:SV:=(.ea 0 a0d 6 3)
abbrev d1o:PT:=(jU 0 [a0d,a4P,a0f,a0g,a0p,a0t,a0u,a0l,a0o,a0r,a0v,a0z,a0D,a0y,a0B,a0C,a0N,b9f,a0T,a0X] [] a0J)
abbrev e8q:SV:=(.ea 0 a0d 6 2)
abbrev e6C:PT:=(jU 0 [a0d,d0i,a0f,a0g,a0p,a0t,a0u,a0l,a0o,a0r,a0v,a0z,a0D,a0y,a0B,a0C,a0N,b9f,a0T,a0X] [] a0J)
abbrev e7V:SV:=(.ea 0 a0d 6 1)
abbrev e7E:PT:=(jU 0 [a0d,d0c,a0f,a0g,a0p,a0t,a0u,a0l,a0o,a0r,a0v,a0z,a0D,a0y,a0B,a0C,a0N,b9f,a0T,a0X] [] a0J)
abbrev e8h:SV:=(.ea 0 a0d 6 0)
abbrev e5Q:PT:=(jU 0 [a0d,d1O,a0f,a0g,a0p,a0t,a0u,a0l,a0o,a0r,a0v,a0z,a0D,a0y,a0B,a0C,a0N,b9f,a0T,a0X] [] a0J)
abbrev e2z:PT:=(jU 0 [a0d,d1F,a0f,a0g,a0p,a0t,a0u,a0l,a0o,a0r,a0v,a0z,a0D,a0q] [] e1Z)
abbrev d5z:PT:=(jU 0 [a0d,d0U,a0f,a0g,a0p,a0t,a0u,a0l,a0o,a0r,a0v,a0z,a0q,a0y] [] e1Z)
abbrev e7X:PT:=(jU 0 [a0d,a4P,a0f,a0g,a0p,a0t,a0u,a0l,a0o,a0r,a0v,a0q,a0D,a0y] [] e1Z)
abbrev d5X:BE:=(.eq a0p a0q)
abbrev e6l:PT:=(jU 0 [a0d,d0i,a0f,a0g,a0p,a0t,a0u,a0l,a0o,a0r,a0q,a0z,a0D,a0y] [] e1Z)
abbrev d5H:PT:=(jU 0 [a0d,d0c,a0f,a0g,a0p,a0t,a0u,a0l,a0o,a0q,a0v,a0z,a0D,a0y] [] e1Z)
abbrev e6f:PT:=(jU 0 [a0d,d1O,a0f,a0g,a0p,a0t,a0u,a0l,a0q,a0r,a0v,a0z,a0D,a0y] [] e1Z)
abbrev d6H:PT:=(.scut 0 (sm (.a 0)) (sm (.a 1)) d1m)
abbrev e6I:IE:=(.sub a8b d1O)
abbrev d5M:PT:=(cA 8 [] [] a1A (.ret ff a8U []))
abbrev e7m:List SV:=[a0E,(.agg [a1L,a1P,a1N,a1E])]
abbrev d1D:List Sh:=[(.one .val),a7e]
abbrev e7W:PT:=(cA 8 [] [] a1A (.ret ff (.bool (.a 2)) []))
abbrev e7S:SV:=(.ea 0 a0d 9 0)
abbrev e6Y:List Kd:=[jD,jD,jD,jD,jD,jD,jD,jD,jD]
abbrev e8B:List SV:=[a1f,(.agg [a5S,e1x,c0z,d0T,e5K,d5V,e1z,b6m,d5G])]
abbrev e8z:List SV:=[a2J,a3U,a7o,a7s,a2u,a2h,a2k,a2s,d1q,a2f,a2r,c3d,a2L,a4J,b1a,a7N,b0c,e2E,b3K]
abbrev e7Z:PT:=(.ret ff e0f [])
abbrev e5N:PT:=(.ret ff e1K [])
abbrev e7r:List SV:=[(.va 21)]
abbrev c2t:SV:=(.pa 9 15)
abbrev e1A:List SV:=[(.va 20)]
abbrev d6z:List SV:=[(.va 22)]
abbrev d1z:PT:=(.storeM (.pa 9 17) [(.va 24)] (.ret tt (.pa 9 0) []))
abbrev d6q:PT:=(.storeM (.pa 9 16) [(.va 23)] d1z)
abbrev e0N:List SV:=[(.va 19)]
abbrev d6p:SV:=(.pa 0 0)
abbrev b2t:List SV:=[.nilS,.nilS,.nilS,.nilS,a1h,a1h,a1h,a1h,.nilS,a1h,a1h,a1h,a1h,a1h,a1h,.nilS,.nilS,.nilS,b2w]
abbrev a9Z:List SV:=[a0Q,a1f,a1d,a1i,a1L,a1P,a1N,a1E,a1S,a2Y,a2u,a2h,a2k,a2s,a2f,a1G,a2J,a3U,b3K]
abbrev e1v:List Kd:=[.val,.val,.val,.val]
abbrev e7N:List Sh:=[(.agg e1v)]
abbrev e7K:PT:=(.ret ff (.tup [e2u,(jE 10)]) [])
abbrev e7e:PT:=(.ret ff (.tup [e2u,(jE 6)]) [])
abbrev e8A:SV:=(.agg [a2Y,a2u,a2h,a2k,a2s,a2f,c3d,a2L,a4J,b1a,a5S,e1x])
abbrev e8v:BE:=(.eq a7t a0q)
abbrev e6G:BE:=(.is 0 6)
abbrev e5W:IE:=(.slen 6)
abbrev e1g:BE:=(treeI a0v (.slen 9))
abbrev d6d:PT:=(nD e1g (.storeM (.ea 9 a0v 6 0) e0j (nD (treeI a0v (.slen 10)) (.storeM (.ea 10 a0v 1 0) [b1e] (.ret ff (.tup [(.agg [a1j,a0Q,a1f,a1d,a1L,a1P,a1N,a1E,a1i,a2Y,a2u,a2h,a2k,a2s,a2f,a7o,a7s,a2J,b3K]),a1h]) [])))))
abbrev c0n:PT:=(nD e6G (.ite (.eq e5W a0q) (.app nO (.lit []) 1 d6d) (.appM .nilS (.va 6) 1 4 d6d)))
abbrev e6o:PT:=(nD b2N (.ite e8v (.app nO (.lit []) 6 c0n) (.appM .nilS (.va 5) 6 51 c0n)))
abbrev e6v:PT:=(.ret ff (.tup [e2u,d0T]) [])
abbrev d0X:PT:=(nD (treeI a0v (.slen 8)) (.storeM (.ea 8 a0v 6 0) e0j (nD e1g (.storeM (.ea 9 a0v 1 0) [b1e] (.ret ff (.tup [a6K,a1h]) [])))))
abbrev e2A:PT:=(nD e6G (.ite (.eq e5W a0q) (.app nO (.lit []) 1 d0X) (.appM .nilS (.va 6) 1 4 d0X)))
abbrev e2p:PT:=(nD b2N (.ite e8v (.app nO (.lit []) 6 e2A) (.appM .nilS (.va 5) 6 51 e2A)))
abbrev e0H:PT:=(cA 51 [a0Q] [] a3x (cA 52 [a1f] [] a3x (.ret tt (.agg [a1L,a1P,a1N,a1E,a2Y,a2u,a1d,a1i,a1S]) [])))
abbrev a8k:PT:=(nD a1R (jU 0 [f0x] [] c2f))
abbrev e0W:BE:=(.lt a0q a8b)
abbrev c5v:PT:=(nD a2c (.ite e0W (nD a2c (nD (treeB e6I) (nD (treeI e6I a8b) (lO ff (.ea 0 e6I 12 6) a2W (.ret ff (.bool (.and e1f (.and c5z (.and c5R (.and (.eq a0g a0q) (.and d5X (.eq a0t a0q))))))) []))))) rF))
abbrev e7I:PT:=(nD a2c (jU 0 [a8b,a0q,a0q,a0q,a0q,a0q,a0q,a0q] [] a0J))
abbrev e2v:List SV:=[d5V,e1z,b6m,d5G,(jA 24),(jA 25)]
abbrev e6J:PT:=(nD a2c (jU 0 [a8b,a0q] [] a0J))
abbrev d5L:SV:=(.agg [a1N,a1E,a2Y,a2u,a2h,a2k,a2s,a2f,a2r,c3d,a2L,a4J])
abbrev e1R:PT:=(nD a1M (jU 0 c0g [] a0J))
abbrev e7A:List SV:=[a1i]
abbrev b6w:PT:=(.ret tt (.tup []) [])
abbrev d6v:PT:=(nD e1G (.storeM e1c e7A b6w))
abbrev d6E:PT:=(nD e1G (.storeM e1o e7A (nD e1G (.storeM e1c [a1d] b6w))))
abbrev e8e:PT:=(jU 1 [a0d,a0k,a0f,a0g,a0p,a0t,a0u,a0l,a0o,a0r,a0v,a0z,a0D,a0y,a0B,a0C] a6Z [a3U,a1j,a0Q,a1f,a1d,a7N,a1S,a1G,a2J])
abbrev e1w:List IE:=[a0q,a0d,a0k,a0f,a0g,a0p,a0t,a0u,a0l,a0o,a0r,a0v,a0z,a0D,a0y,a0B,a0C]
abbrev e8c:PT:=(jU 0 e1w a6Z [a7s,a1j,a0Q,a1f,a1d,a1i,a1S,a1G,a2J])
abbrev b0h:PT:=(jU 1 [a0k,a0f,a0g,a0p,a0t,a0u,a0l,a0o,a0r,a0v,a0z,a0D,a0y,a0B,a0C,a0N] a6Z [a7o,a0Q,a1f,a1d,a1i,b0c,a1G,a2J,a3U])
abbrev c2E:PT:=(nD a1R (jU 0 [f0x,a0k,a0f,a0g,a0p,a0t,a0u,a0l,a0o,a0r,a0v,a0z,a0D,a0y,a0B,a0C,a0N] a6Z a7D))
abbrev e1C:List BE:=[a3E,a5W]
abbrev c5X:List BE:=[(.t tt),a5W]
abbrev c5Z:List Sh:=[(.agg a2W),a7e]
abbrev b6s:List Sh:=[(.agg b9Y)]
abbrev e2j:PT:=(.ret ff (.tup [(.agg [a7o,a7s,d1q,a7N,(jA 30),(jA 31),(jA 32),(jA 33),b0c,(jA 34),(jA 35),(jA 36),(jA 37),(jA 38),(jA 39),e2E,a4L,(.va 16),(.bool (.a 2))]),a1h]) [])
abbrev e8r:PT:=(cA 75 [(.agg [a0Q,a1f,a1d,a1i,a1N,a1E,a2Y,a2u,a1S,a2h,a2k,a2s,a2f,a2r,c3d,a1G,a2J,a3U,b1e])] [] b6s e2j)
abbrev c5S:PT:=(nD b2N (.ite (.le (.l 30) a7t) e8r (.ite (.not d1J) e8r (cA 75 [(.agg [a0Q,a1f,a1d,a1i,a1N,a1E,a2Y,a2u,a1S,d5G,(jA 24),(jA 25),(jA 26),(jA 27),(jA 28),a1G,a2J,a3U,a8U])] [] b6s e2j))))
abbrev c5w:BE:=(.eq a0y a0q)
abbrev b6q:List SV:=[a2k,a2s,a2f,a2r,c3d,a2L]
abbrev e0r:List SV:=[e6k,(.agg b6q)]
abbrev e1p:BE:=(.eq a0o a0q)
abbrev e7i:List SV:=[b1a,a5S,e1x,c0z,d0T,e5K]
abbrev e5Y:BE:=(treeI a0f a8b)
abbrev e8w:List IE:=[a0d,a0k,(jP 2),a0g,a0p,a0t,a0u,a0l,a0o]
abbrev e7d:PT:=(cA 118 [a0Q,a2r,b6g] [] a0W (.ite (.lt a0z a0D) e6h (nD a0K (jU 0 e8w [] e1Z))))
abbrev e6A:BE:=(.eq a0r a0q)
abbrev e2q:BE:=(.eq a0z a0q)
abbrev d6M:IE:=(.add (.mul a0d a0u) (.mul a0k a0l))
abbrev d5K:IE:=(.add (.add d6M (.mul a0f a0o)) (.mul a0g a0r))
abbrev e6u:IE:=(.add (.add d5K (.mul a0p a0v)) (.mul a0t a0z))
abbrev e7D:PT:=(nD (treeB (.mul a0d a0u)) (nD (treeB (.mul a0d a0u)) (nD (treeB (.mul a0k a0l)) (nD (treeB d6M) (nD (treeB (.mul a0f a0o)) (nD (treeB (.add d6M (.mul a0f a0o))) (nD (treeB (.mul a0g a0r)) (nD (treeB d5K) (nD (treeB (.mul a0p a0v)) (nD (treeB (.add d5K (.mul a0p a0v))) (nD (treeB (.mul a0t a0z)) (nD (treeB e6u) (.ret ff (.int .i64 e6u) [])))))))))))))
abbrev e0A:List IE:=[a0q,a0q,a0q,a0q,a0q,a0q,a0q]
abbrev b6u:PT:=(.ite c5L (.ret tt (.tup [a0Q,.nilS]) []) (cA 141 [a1f,a1L] [] a3x (.ret tt (.tup [.nilS,a1d]) [])))
abbrev d5D:List SV:=[(.agg [a2k,a2s,a2f,a2r,c3d,a2L,a4J,b1a,a5S,e1x,c0z,d0T]),(.agg [e5K,d5V,e1z,b6m,d5G,(jA 24),(jA 25),(jA 26),(jA 27),(jA 28),(jA 29),(jA 30)])]
abbrev e2g:IE:=(.add (.a 31) (.a 32))
abbrev e0t:BE:=(treeI a0u a0P)
abbrev e6n:SV:=(.ea 1 a0u 1 0)
abbrev e0v:PT:=(nD (treeI a0u a2Q) (.storeM (.ea 2 a0u 1 0) [a1P] (nD (treeB (jP 6)) (jU 3 [a0u,a0k,a0f,a0g,a0p,a0t,(jP 6)] [] c2x))))
abbrev e8d:PT:=(nD (treeB (jP 6)) (jU 3 [a0d,a0k,a0f,a0g,a0p,a0t,(jP 6)] [] c2x))
abbrev e2b:IE:=(.add (.a 32) (.a 31))
abbrev c3b:SV:=(.agg [(jE 1),a1h,a1h,a1h,a1h,a1h])
abbrev c2k:List SV:=[a1i,(jE 1),c3b]
abbrev c3e:SV:=(.agg [a2k,a2s,a2f,a2r,c3d,a2L,a1P,a1N,a1E,a2Y,a2u,a2h])
abbrev c2D:PT:=(.ite a6h (.ret tt e1x []) (nD e1G (nD e1G (lO ff e1o a5K (lO ff e1c a5K (nD (treeI a0d (.slen 15)) (.storeM (.ea 15 a0d 6 0) b3U (nD (treeI a0d (.slen 16)) (.storeM (.ea 16 a0d 1 0) [b1e] a0O)))))))))
abbrev c2K:PT:=(cA 56 [(.agg [a7s,d1q,a7N,b0c]),a5S,a1L,e2E,c3e] [] a0W c2D)
abbrev e6V:PT:=(cA 56 [(.agg [d1q,a7N,b0c,e2E]),a5S,a1L,a7s,c3e] [] a0W c2D)
abbrev e7h:BE:=(.lt d1O a8b)
abbrev e7t:BE:=(.lt d0c a8b)
abbrev e7w:BE:=(.lt d0i a8b)
abbrev e6g:BE:=(.lt a4P a8b)
abbrev e6S:BE:=(.lt d0U a8b)
abbrev c3i:PT:=(nD a2c (.ite (.lt d1F a8b) e5N e5N))
abbrev c2o:PT:=(.ret ff (.agg [a1L,a1P,a1N,a1E,a2Y,a1h]) [])
abbrev c2X:PT:=(.ret ff (.agg [a1L,a1P,a1N,a1E,a1h,a1h]) [])
abbrev c3h:PT:=(.ret ff (.agg [a1L,a1P,a1N,a1h,a1h,a1h]) [])
abbrev c1U:PT:=(.ret ff (.agg [a1L,a1P,a1h,a1h,a1h,a1h]) [])
abbrev c3l:PT:=(.ret ff (.agg [a1L,a1h,a1h,a1h,a1h,a1h]) [])
abbrev c3m:BE:=(.eq a0y d0U)
abbrev c2R:IE:=(.sub a0u a0C)
abbrev c2Y:BE:=(.eq a0y a4P)
abbrev c2g:BE:=(.eq a0y d0i)
abbrev c2T:BE:=(.eq a0y d0c)
abbrev d6f:BE:=(.eq a0y d1O)
abbrev d1M:IE:=(.sub a0t a0C)
abbrev d5O:IE:=(.sub a0p a0C)
abbrev e1P:IE:=(.sub a0g a0C)
abbrev e2x:IE:=(.sub a0f a0C)
abbrev e1V:IE:=(.sub a0k a0C)
abbrev e6a:PT:=(.ret ff b1a [])
abbrev e5O:PT:=(.ret ff (jE 15) [])
abbrev e6q:PT:=(.ite (.not (.a 2)) e5O a8l)
abbrev e1i:PT:=(cA 87 [d5L] [] a1A e6q)
abbrev e7c:List SV:=[(.agg [a1j,a0Q,a1f,a1d,a1P,a1i]),d5L]
abbrev d1C:PT:=(cA 108 [a3U] [] a1A (.ite (.a 2) a8l e5O))
abbrev e7b:PT:=(.app (sm 5) (.va 4) 12 (.app nO (.lit [[(jA 2),(jA 3),(jA 4),(jA 5),(jA 6),(jA 7),(jA 8),(jA 9),(jA 10),(jA 11),(jA 12),(jA 13)]]) 12 (.app (sm 6) (.va 7) 12 d1C)))
abbrev e6s:PT:=(.app nO (.lit [[(jA 2),(jA 3),(jA 4),(jA 5),(jA 6),(jA 7),(jA 8),(jA 9),(jA 10),(jA 11),(jA 12),(jA 13)]]) 12 (.app (sm 5) (.va 4) 12 (.app (sm 7) (.va 6) 12 d1C)))
abbrev e7M:PT:=(.app nO (.lit [[(jA 2),(jA 3),(jA 4),(jA 5),(jA 6),(jA 7),(jA 8),(jA 9),(jA 10),(jA 11),(jA 12),(jA 13)]]) 12 (.app nO (.lit []) 12 (.app (sm 6) (.va 4) 12 (.app (sm 7) (.va 5) 12 d1C))))
abbrev e8s:BE:=(.not (.eq a8b a0P))
abbrev e5H:PT:=(nD a2c (jU 0 [a0q,a8b,a0q] [] [a1j,a0Q,a1j]))
abbrev e7p:IE:=(.tdiv (.mul a0p a0k) (.l 100))
abbrev e1d:IE:=(.add (.add a0p a0d) (.add e7p d1O))
abbrev e8p:PT:=(.ite (.le (.l 48) a0d) (.ret ff (.bool (.le a0d (.l 57))) []) rF)
abbrev e7v:PT:=(cA 31 [(.pa 9 0)] [] [] (.ret tt (.tup [(.pa 9 0),a1h]) []))
abbrev e5S:PT:=(.newM [a1i,a1S,a1G,a2J,a1L,a1P,a1N,a1E,.nilS,a2h,a2k,a2s,a2f,a2r,c3d,.nilS,.nilS,a3U,b2w] 79 e7v)
abbrev e0I:PT:=(jU 0 [a0l,a0d,a0k,a0f,a0g,a0p,a0t] [] [a1j,a2J])
abbrev d5W:PT:=(lO ff e1o a5K (cA 58 [a2h,e1K,a1S,a1G] [] d1D e0I))
abbrev e6b:PT:=(cA 58 [a2h,e1K,a1G,a1S] [] d1D e0I)
abbrev e1t:PT:=(nD e1G (.storeM a1k [a7o] (jU 1 [a0d,a0k,a0f,a0g,a0p,a0t] [] [a1j,a1d])))
abbrev b4b:PT:=(nD e1G (.storeM a1k [a1G] (jU 1 [a0k,a0f,a0g,a0p,a0t,a0u] [] c2f)))
abbrev b4f:PT:=(jU 2 [(.a 28),a0d,a0k,a0f,a0g,a0p,a0t,a0u,a0l,a0o,a0r,a0v,a0z,a1B,a1F,a2A,a4D,a8h,a4c] [] a0J)
abbrev c0e:PT:=(cA 61 [(.agg [a2L,a4J,b1a,a5S]),(.agg [e1x,c0z,d0T,e5K,d5V,e1z]),c0j] [] c5Z b4f)
abbrev d1p:List Kd:=[jD,jD,jD,jD]
abbrev c5E:PT:=(cA 61 [(.agg [d0T,e5K,d5V,e1z]),(.agg b9S),c0j] [] c5Z b4f)
abbrev e5P:PT:=(nD e1G (.storeM a7E [b1e] (.ret tt (.tup [b1e,a1h]) [])))
abbrev c0q:SV:=(.ea 0 a0d 9 8)
abbrev c5N:SV:=(.ea 1 a0d 9 8)
abbrev c5u:BE:=(.not (.eq e5W b0f))
abbrev c5A:BE:=(.not (.eq a2Q b1d))
abbrev d6r:BE:=(.not (.eq a3W a7t))
abbrev d5I:List SV:=[a1j,a0Q,a1f,a1d,a1i,a1S,a1G,a2J]
abbrev d0h:BE:=(.not (.eq b0f e5W))
abbrev e8D:SV:=(.ea 0 a0d 9 7)
abbrev e5M:SV:=(.ea 1 a0d 9 7)
abbrev e6F:BE:=(.not (.eq a7t a3W))
abbrev d6t:SV:=(.ea 0 a0d 9 6)
abbrev e6K:SV:=(.ea 1 a0d 9 6)
abbrev e0P:BE:=(.not (.eq b1d a2Q))
abbrev e7l:PT:=(nD (treeI a0v (.slen 8)) (.storeM (.ea 8 a0v 1 0) [b1e] (nD e1g (.storeM (.ea 9 a0v 6 0) a3z (nD (treeI a0v (.slen 10)) (.storeM (.ea 10 a0v 1 0) a3H (.ret ff (.tup [(.agg [a1j,a0Q,a1f,a1d,a1L,a1P,a1N,a1E,a1i,a2Y,a2u,a2h,a2k,a2s,a2f,a7o,a7s,a3U,b3K]),a1h]) [])))))))
abbrev d5E:PT:=(nD e6G (.ite (.eq e5W a0q) (.app nO (.lit []) 1 e7l) (.appM .nilS (.va 6) 1 4 e7l)))
abbrev e5I:PT:=(nD b2N (.ite e8v (.app nO (.lit []) 6 d5E) (.appM .nilS (.va 5) 6 51 d5E)))
abbrev d6y:List BE:=[a3E,a5W,(.a 2),(.a 3)]
abbrev e2e:PT:=(nD (treeB (jP 7)) (jU 1 [a0d,a0k,a0f,a0g,a0p,a0t,a0u,(jP 7)] d6y e2h))
abbrev e5J:PT:=(.ret ff (.tup [.nilS,(jE 4)]) [])
abbrev e0q:PT:=(.ret ff (.tup [.nilS,(jE 3)]) [])
abbrev e6B:PT:=(nD a1M (jU 1 e1E [] c2f))
abbrev e0G:PT:=(nD c7d (.storeM (.ea 1 a0k 6 0) e7i e6B))
abbrev e6W:List SV:=[.nilS,.nilS]
abbrev e0s:PT:=(.ret ff (.tup [(.agg [a1j,a0Q,a1f,a1d,a1L,a1P,a1N,a1E,.nilS,a2h,a2k,a2s,a2f,a2r,c3d,a1i,a1S,a1G,b2w]),a1h]) [])
abbrev e7k:PT:=(.mkM a0P a3H 4 1 1 (.mkM a0P a3H 4 1 1 e0s))
abbrev e1J:PT:=(.ret ff (.tup [(.agg [a1j,a0Q,a1f,a1d,a1L,a1P,a1N,a1E,.nilS,a2h,a2k,a2s,a2f,a2r,c3d,a1i,a1G,a1S,b2w]),a1h]) [])
abbrev e8o:PT:=(.mkM a0P a3H 4 1 1 (.mkM a0P a3H 4 1 1 e1J))
abbrev e2C:PT:=(.ret ff (.tup [(.agg [a1j,a0Q,a1f,a1d,a1L,a1P,a1N,a1E,.nilS,a2h,a2k,a2s,a2f,a2r,c3d,a1S,a1i,a1G,b2w]),a1h]) [])
abbrev e8t:PT:=(.mkM a0P a3z 51 6 48 (.mkM a0P a3H 4 1 1 e2C))
abbrev e0X:PT:=(.ret ff (.tup [(.agg [a1j,a0Q,a1f,a1d,a1L,a1P,a1N,a1E,.nilS,a2h,a2k,a2s,a2f,a2r,c3d,a1G,a1i,a1S,b2w]),a1h]) [])
abbrev e8y:PT:=(.mkM a0P a3H 4 1 1 (.mkM a0P a3z 51 6 48 e0X))
abbrev e1W:PT:=(.ret ff (.tup [(.agg [a1j,a0Q,a1f,a1d,a1L,a1P,a1N,a1E,.nilS,a2h,a2k,a2s,a2f,a2r,c3d,a1S,a1G,a1i,b2w]),a1h]) [])
abbrev e7o:PT:=(.mkM a0P a3z 51 6 48 (.mkM a0P a3H 4 1 1 e1W))
abbrev e1Q:PT:=(.ret ff (.tup [(.agg [a1j,a0Q,a1f,a1d,a1L,a1P,a1N,a1E,.nilS,a2h,a2k,a2s,a2f,a2r,c3d,a1G,a1S,a1i,b2w]),a1h]) [])
abbrev e8j:PT:=(.mkM a0P a3H 4 1 1 (.mkM a0P a3z 51 6 48 e1Q))
abbrev e2m:PT:=(.ret ff (.tup [(.agg [a1j,a0Q,a1f,a1d,a1L,a1P,a1N,a1E,.nilS,a2u,a2h,a2k,a2s,a2f,a2r,a1i,a1S,a1G,b2w]),a1h]) [])
abbrev e7H:PT:=(.mkM a0P a3H 4 1 1 (.mkM a0P a3H 4 1 1 e2m))
abbrev e1S:PT:=(.ret ff (.tup [(.agg [a1j,a0Q,a1f,a1d,a1L,a1P,a1N,a1E,.nilS,a2u,a2h,a2k,a2s,a2f,a2r,a1i,a1G,a1S,b2w]),a1h]) [])
abbrev e7f:PT:=(.mkM a0P a3H 4 1 1 (.mkM a0P a3H 4 1 1 e1S))
abbrev e0V:PT:=(.ret ff (.tup [(.agg [a1j,a0Q,a1f,a1d,a1L,a1P,a1N,a1E,.nilS,a2u,a2h,a2k,a2s,a2f,a2r,a1S,a1i,a1G,b2w]),a1h]) [])
abbrev e6N:PT:=(.mkM a0P a3z 51 6 48 (.mkM a0P a3H 4 1 1 e0V))
abbrev b4m:PT:=(.ret ff (.tup [(.agg [a1j,a0Q,a1f,a1d,a1L,a1P,a1N,a1E,.nilS,a2u,a2h,a2k,a2s,a2f,a2r,a1G,a1i,a1S,b2w]),a1h]) [])
abbrev e6Z:PT:=(.mkM a0P a3H 4 1 1 (.mkM a0P a3z 51 6 48 b4m))
abbrev e1h:PT:=(.ret ff (.tup [(.agg [a1j,a0Q,a1f,a1d,a1L,a1P,a1N,a1E,.nilS,a2u,a2h,a2k,a2s,a2f,a2r,a1S,a1G,a1i,b2w]),a1h]) [])
abbrev e7L:PT:=(.mkM a0P a3z 51 6 48 (.mkM a0P a3H 4 1 1 e1h))
abbrev e0e:PT:=(.ret ff (.tup [(.agg [a1j,a0Q,a1f,a1d,a1L,a1P,a1N,a1E,.nilS,a2u,a2h,a2k,a2s,a2f,a2r,a1G,a1S,a1i,b2w]),a1h]) [])
abbrev e6y:PT:=(.mkM a0P a3H 4 1 1 (.mkM a0P a3z 51 6 48 e0e))
abbrev e7T:PT:=(nD a0R (.ite (.lt (.l 16) a2Q) d6w (jU 0 [a0q] [] e1Z)))
abbrev b0e:List SV:=[a0Q,a1j,a1f,a1d]
abbrev c5H:PT:=(nD a1M (jU 1 [a0d,a1X,a0f,a0g,a0p,a0t] d6y e1Z))
abbrev b0k:PT:=(.ret ff (.tup [e2u,(jE 4)]) [])
abbrev c5G:PT:=(nD e1r (.ite (.lt a0v a3W) (nD (treeI a0v a3W) (lO ff (.ea 4 a0v 9 0) a2W (.app nO (.lit []) 9 (.cut 4 nO (sm (.a 10)) 9 (.app (sm 8) (.va 9) 9 (cA 75 [(.agg [a1j,a0Q,a1f,a1d,a1L,a1P,a1N,a1E,a7s,c3d,a2L,a4J,b1a,a5S,e1x,a1S,a1G,a2J,b2w])] [] b6s (.ret ff (.tup [(.agg [d1q,a7N,b0c,e2E,c0z,d0T,e5K,d5V,a4L,e1z,b6m,d5G,(jA 24),(jA 25),(jA 26),(.va 16),(.va 17),(.va 18),a8U]),a1h]) []))))))) (cA 75 [(.agg [a1j,a0Q,a1f,a1d,a1L,a1P,a1N,a1E,a1i,a2Y,a2u,a2h,a2k,a2s,a2f,a1S,a1G,a2J,b2w])] [] b6s (.ret ff (.tup [(.agg [a3U,a7o,a7s,d1q,c3d,a2L,a4J,b1a,a7N,a5S,e1x,c0z,d0T,e5K,d5V,b0c,e2E,a4L,a8U]),a1h]) []))))
abbrev c5U:PT:=(.ret ff (.tup [a1h,a1h,a1h]) [])
abbrev d5C:IE:=(.add a0k a0D)
abbrev e2f:BE:=(treeB d5C)
abbrev e5T:IE:=(.add a0f a0y)
abbrev e0J:BE:=(treeB e5T)
abbrev c5I:BE:=(.eq a0B a0d)
abbrev d5Q:SV:=(.ea 0 a0f 6 0)
abbrev d6c:PT:=(nD a0K (jU 0 e8w [] c2f))
abbrev e8C:PT:=(nD e5Y (.storeM d5Q [a2f,a2r,c3d,a2L,a4J,b1a] d6c))
abbrev e0S:List SV:=[a1P,a1N,a1E,a2Y]
abbrev e6T:SV:=(.agg e0S)
abbrev e8E:List SV:=[a2u,a2h,a2k,a2s,a2f,a2r]
abbrev d0s:IE:=(.sub (.sat 0 a0f) (.l 48))
abbrev d6a:IE:=(.add (.mul a0k (.l 10)) d0s)
abbrev f8t:IE:=(.add (.mul a0d a0f) (.l 99))
abbrev f8v:IE:=(.add (.add a0d a0k) (.tdiv f8t (.l 100)))
abbrev f8w:List SV:=[a0Q,a1f,a1d,a1i,a1N,a1E,a2Y,a2u,a1S,a2h,a2k,a2s,a2f,a2r,c3d,a1G,a2J,a3U,b3K]
abbrev f8n:List SV:=[a0Q,a1f,a1d,a1i,a1N,a1E,a2Y,a2u,a1S,a2h,a2k,a2s,a2f,a2r,c3d,a1G,a2J,a3U,a8U]
abbrev f8r:List SV:=[a1N,a2Y,a2u]
def b2u:PT:=(cA 14 a0J [] a2n (.ite (.not (.and (.eq a0v a0p) (.and (.eq a0z a0t) (.and (.eq a0D a0u) (.and (.eq a0y a0l) (.and (.eq a0B a0o) (.eq a0C a0r))))))) rF (nD b2N (cA 15 a0J [] a0W (.ite (.not (.eq a0N a7t)) rF (cA 16 a0J [] a1A (.ite (.not (.or (.and a5W a3E) (.and d1n a4h))) rF (cA 34 a0J [] a3x (cA 33 [a7o,a1S] [] a1A (.ite (.not (.a 2)) rF (jU 0 [c3N,a0d,a0k,a0f,a0g,a0p,a0t,a0u,a0l,a0o,a0r] a6Z a7D)))))))))))
def a6v:PT:=(nD (.is 0 8) (.ite (.le a0d (.slen 8)) (cA 26 c1x [] a3x (cA 35 [(.agg e4e),a1L] [] a3x (nD (.is 0 9) (nD (.is 0 10) (.ite (.not (.eq (.slen 9) (.slen 10))) rF (jU 1 [a0d,a0q,a0k,a0f,a0g,a0p,a0t,a0u,a0l,a0o,a0r,a0v] a6Z [a1j,a7o,a7s,a0Q,a1f,a1d,a1i,a1S,a1G,a2J,a3U])))))) a4C))
def a6u:PT:=(nD a3Z (.ite (.lt a0k a0P) (nD c7d (nD c7m (lO ff (.ea 1 a0k 12 0) c3X (lO ff (.ea 2 a0k 12 0) c3X (.ite (.not (.and (.eq a0D a2A) (.and (.eq a0y a4D) (.and (.eq a0B a8h) (.and (.eq a0C a4c) (.and (.eq a0N (.a 28)) (.and (.eq b9f (.a 29)) (.and (.eq a0T (.a 30)) (.and (.eq a0X (.a 31)) (.and (.eq a1m (.a 32)) (.and (.eq a1b (.a 33)) (.and (.eq a1B (.a 34)) (.eq a1F (.a 35)))))))))))))) rF (nD a1M (jU 1 a1u a6Z [a1j,a0Q,a1f,a1d,a1i,a1S,a1G,a2J,a3U,a7o,a7s]))))))) (nD a1R (jU 0 [f0x,a0f,a0g,a0p,a0t,a0u,a0l,a0o,a0r,a0v,a0z] a6Z [a1j,a1d,a1i,a1S,a1G,a2J,a3U,a7o,a7s]))))
def a2M:Qq:=⟨[(.sh (.one .val)),(.sh (.agg [.val,.val,.val,.val,jD,jD,jD,jD,.val,jD,jD,jD,jD,jD,jD,.val,.val,.val,.bool]))],b2u,[a6v,a6u],nO,nO⟩
def c6W:List Cfg:=[{todo:=[(.code (tfR 6 52)),(.inLoop (tfR 6 52)),(.inBlock 0),(.code [tt,tt,tt])],sl:=[(.va 0),(.junk 0),.undef,(.ptr 0 0),(.junk 1),(jA 0)]++jkR 2 64,H:=[(.cells e4e 42 ff)],ni:=11,nb:=1,nv:=9,nj:=66},
 {todo:=[(.code (tfR 14 13468)),(.inLoop (tfR 14 13468)),(.inBlock 2),(.inBlock 1),(.code (tfR 8 211)),(.inLoop (tfR 6 52)),(.inBlock 0),(.code [tt,tt,tt])],sl:=[(.va 0),(.junk 0),.undef,(.ptr 0 0),(.junk 1),(jA 0),(.va 1),(.va 2),(jA 1)]++jkR 2 61,H:=[(.cells [a1d,a1i,a1S,a1G,a1N,a1E,a2Y,a2u,a2J,a2h,a2k,a2s,a2f,a2r,c3d,a3U,a7o,a7s,b3K] 42 ff)],ni:=12,nb:=1,nv:=11,nj:=63}]
def c8J:=okg 11 a2M c6W func11 call11 tt ff [(tfR 6 52),(tfR 14 13468)]
def b5X:PT:=(nD a2c (.cut 0 nO (sm (.mn (.slen 0) (.l 6))) 5 (nD a3Z (jU 0 [a0P,a0q,a0q,a0q,a0q,a0q,a0q,a0q] [] [a0Q]))))
def a8f:PT:=(.ite a1p (nD a2H (lO ff a3T d9m (.ite a3w (jU 0 [a0d,d1F,a0f,a0g,a0p,a0t,a0u,a0r] [] a0J) (.ite a2C (jU 0 [a0d,d0U,a0f,a0g,a0p,a0t,a0r,a0l] [] a0J) (.ite a2I (jU 0 [a0d,a4P,a0f,a0g,a0p,a0r,a0u,a0l] [] a0J) (.ite a2Z (jU 0 [a0d,d0i,a0f,a0g,a0r,a0t,a0u,a0l] [] a0J) (.ite a1n (jU 0 [a0d,d0c,a0f,a0r,a0p,a0t,a0u,a0l] [] a0J) (.ite c5z (jU 0 [a0d,d1O,a0r,a0g,a0p,a0t,a0u,a0l] [] a0J) .stuck)))))))) c2G)
def a4a:Qq:=⟨[(.sh (.one .val))],b5X,[a8f],nO,nO⟩
def d1R:List Cfg:=[{todo:=[(.code (tfR 6 52)),(.inLoop (tfR 6 52)),(.inBlock 0),(.code [tt,tt,tt])],sl:=[(.junk 0),.undef,(.ptr 0 0),(.ptr 1 0)]++jkR 1 6++[(.va 0),(jA 0),(jA 1)]++jkR 7 9++[.undef],H:=[(.cells a3z 38 ff),(.cells b4j 38 ff)],ni:=8,nb:=0,nv:=1,nj:=16}]
def d4h:=okg 19 a4a d1R func19 call19 ff ff [(tfR 6 52)]
def a5d:PT:=(nD e0l (.ite b4c a9Y (.ite c5L b6x (nD e1G (lO ff a1k a5K (nD a3Z (.ite (.lt a0P a0d) b6x (nD e1G (lO ff a1k a5K (nD a0R (.ite (.eq a0d a2Q) (nD e1G (lO ff a7E c0h (.ite a3E b6x e7g))) e7g)))))))))))
def b0z:Qq:=⟨[(.sh (.one .val)),(.sh (.one jD))],a5d,[],nO,nO⟩
def d2X:=okg 27 b0z [] func27 call27 tt tt [] [] [(38,[])]
def a7T:PT:=(jU 0 [a0v,a0q,a0d,a0k,a0f,a0g,a0p,a0t,a0u,a0l,a0o,a0r] a6Z [.nilS,a1j,a0Q,a1f,a1d,a1i,a1S,a1G,a2J])
def a2b:PT:=(nD b2N (.ite (.lt a0k a7t) (.ite e5R (nD (.is 0 8) (.ite (.lt a0d (.slen 8)) (nD (treeI a0k a7t) (nD (treeI a0k a7t) (lO tt (.ea 5 a0k 9 0) a2W (lO tt (.ea 5 a0k 9 6) a5K (nD (treeI a0d (.slen 9)) (lO tt (.ea 9 a0d 6 0) a2W (.app nO (.lit [[(jA 12),(jA 13),(jA 14),(jA 15),(jA 16),(jA 17),(jA 18),(jA 19),(jA 20),(jA 21),(jA 22),(jA 23)]]) 12 (.app (sm 0) (.va 10) 12 (nD a1M (jU 0 a1u a6Z [d1q,a0Q,a1f,a1d,a1i,a1S,a1G,a2J,a3U])))))))))) b1b)) b1b) b1b))
def a2F:Qq:=⟨[(.sh (.agg [.val,.val,.val,.val,jD,jD,jD,jD,.val,jD,jD,jD,jD,jD,jD,.val,.val,.val,.bool])),(.sh (.one jD))],a7T,[a2b],nO,nO⟩
def b9D:List Cfg:=[{todo:=[(.code (tfR 6 52)),(.inLoop (tfR 6 52)),(.inBlock 0),(.code [tt,tt,tt])],sl:=[(.junk 0),(jA 0),(.ptr 0 0),.undef,(.junk 1),(.va 0),(jA 1)]++jkR 2 37++[.undef],H:=[(.cells f8w 42 ff),(.row 0 75 12)],ni:=12,nb:=1,nv:=9,nj:=39}]
def c0C:=okg 35 a2F b9D func35 call35 ff ff [(tfR 6 52)]
def b2E:PT:=(nD a2c (.ite d5B d0p (nD a2c (.ite (.lt d1F a8b) d6w b4o))))
def a6s:PT:=(nD a2c (.ite e0Z (nD b6b (lO ff (.ea 0 a0d 5 0) a5K (cA 76 [a0Q] [] a1A (.ite a4h a1U (jU 1 [a0d,a0q] [] a0J))))) (jU 2 [d1O,a0q] [] a0J)))
def a4T:PT:=(.ite a1p (nD a2H (nD b6b (lO tt a3T a5K (lO tt (.ea 0 a0d 5 0) a5K (nD (.is 3 1) (nD (.is 3 2) (.ite (.seq 1 2) d6h (nD a1M (jU 1 c0g [] a0J))))))))) (nD b6b (lO ff (.ea 0 a0d 5 0) d9m (.ite (.lt a0f d1O) b6o (.ite a1e b6o (.ite c0o b6o (.ite a8T b6o (.ite d6m b6o (.ite (.lt (.l 1000) a0p) b6o (.ite b6f b6o (.ite (.lt a4P a0t) b6o d1s)))))))))))
def a6t:PT:=(nD a2c (.ite d1f (nD a2H (lO ff (.ea 0 a0k 5 1) b6e (nD a0K (nD (treeB (.mul a0d (jP 2))) (nD a1M (jU 2 [(.mul a0d (jP 2)),a1X] [] a0J)))))) (.ite (.lt (.l 1024) a0d) (.ret ff (jE 12) []) a8l)))
def a2i:Qq:=⟨[(.sh (.one .val))],b2E,[a6s,a4T,a6t],nO,nO⟩
def c6P:List Cfg:=[{todo:=[(.code (tfR 7 116)),(.inLoop (tfR 7 116)),(.inBlock 0),(.code [tt,tt,tt,tt])],sl:=[(.va 0),.undef,(.junk 0),(jA 0),(.junk 1),(.junk 2),.undef,.undef]++jkR 3 77++udR 16,H:=[],ni:=1,nb:=0,nv:=1,nj:=80},
 {todo:=[(.code (tfR 15 29844)),(.inLoop (tfR 15 29844)),(.inBlock 2),(.code (tfR 12 3731)),(.inBlock 1),(.code (tfR 9 467)),(.inLoop (tfR 7 116)),(.inBlock 0),(.code [tt,tt,tt,tt])],sl:=[(.va 0),.undef,(.junk 0),(jA 0),(jA 1),(.junk 1),.undef,.undef]++jkR 2 77++udR 16,H:=[],ni:=2,nb:=0,nv:=1,nj:=79},
 {todo:=[(.code (tfR 9 500)),(.inLoop (tfR 9 500)),(.inBlock 4),(.code (tfR 6 63))],sl:=[(.va 0),.undef]++jkR 0 4++[(jA 0),(jA 1)]++jkR 4 91++[.undef,.undef],H:=[],ni:=2,nb:=0,nv:=1,nj:=95}]
def c9s:=okg 43 a2i c6P func43 call43 ff ff [(tfR 7 116),(tfR 15 29844),(tfR 9 500)]
def a9G:PT:=(nD a2c (.mkM a8b a3z 51 6 48 (.copyM 1 0 6 a1w)))
def a9C:Qq:=⟨[(.sh (.one .val))],a9G,[],nO,nO⟩
def c4g:=okg 51 a9C [] func51 call51 tt tt
def b1Q:PT:=(nD e1G (nD e1G (lO ff a1k a5K (nD a3Z (nD (treeB (.sub a0P d1O)) (lO ff a1k a5K (nD (treeI (.sub a0P d1O) a2Q) (lO ff (.ea 2 (.sub a0P d1O) 9 7) a5K (cA 51 [a1d] [] a3x (nD e1G (lO ff d6x a5K (nD b2N (jU 0 [a7t,a0q] [] [a1i,a1S])))))))))))))
def a4I:PT:=(.ite a1p (nD c7d (lO ff (.ea 1 a0k 1 0) c0h (.ite a3E (nD a2H (.storeM b2P a3z a5J)) a5J))) (.ret tt a1j []))
def a4V:Qq:=⟨[(.sh (.one .val))],b1Q,[a4I],nO,nO⟩
def c4O:List Cfg:=[{todo:=[(.code (tfR 6 52)),(.inLoop (tfR 6 52)),(.inBlock 0),(.code [tt,tt,tt])],sl:=[(.junk 0),.undef,(.junk 1),(.va 0)]++jkR 2 19++[(.va 1),(jA 0),(jA 1)]++jkR 21 10++[.undef],H:=[],ni:=2,nb:=0,nv:=2,nj:=31}]
def c7Z:=okg 59 a4V c4O func59 call59 tt tt [(tfR 6 52)]
def a1Y:PT:=(nD a2c (.ite b4c d5Z (.app nO (.lit []) 5 (.app (sm 1) (.va 0) 5 d1m))))
def a7Z:Qq:=⟨[(.sh (.one .val))],a1Y,[],nO,nO⟩
def b3c:List Cfg:=[]
def a4i:PT:=(nD d6G (.mkM b0f a3z 51 6 48 (nD d6G (.mkM b0f a3H 4 1 1 (.ret ff a6K [])))))
def a7S:Qq:=⟨[(.sh (.agg [.val,.val,.val,.val,jD,jD,jD,jD,.val,jD,jD,jD,jD,jD,jD,.val,.val,.val,.bool]))],a4i,[],nO,nO⟩
def c1f:=okg 75 a7S [] func75 call75 ff ff
def a8j:PT:=e8i
def b2z:PT:=(.appF 4 (.va 5) 12 (.both a8j a8j))
def b2A:PT:=(.appF 4 (.va 5) 12 e8i)
def b2r:PT:=(.app nO (.lit [[(jA 1),(jA 2),(jA 3),(jA 4),(jA 5),(jA 6),(jA 7),(jA 8),(jA 9),(jA 10),(jA 11),(jA 12)]]) 12 (.both b2z b2A))
def b2B:PT:=(.app nO (.lit [[(jA 1),(jA 2),(jA 3),(jA 4),(jA 5),(jA 6),(jA 7),(jA 8),(jA 9),(jA 10),(jA 11),(jA 12)]]) 12 (.appF 4 (.va 5) 12 e8i))
def a6N:PT:=(nD e1r (nD e1r (.chk 4 12 (.both b2r b2B))))
def a9K:Qq:=⟨[(.sh (.agg [.val,.val,.val,.val,jD,.val])),(.sh (.agg [jD,jD,jD,jD,jD,jD,jD,jD,jD,jD,jD,jD]))],a6N,[],nO,nO⟩
def c4v:=okg 83 a9K [] func83 call83 ff ff
def b4J:PT:=a6f
def a7f:PT:=(.ite e6X (.ite d6F (.ite (.lt a2A a0T) (nD (treeB (.sub a0D a0T)) (nD (treeB (.add (.sub a0D a0T) a2A)) (.ite (.lt (.add (.sub a0D a0T) a2A) a0u) a4C d1E))) d1E) (.ite e2t (.ite (.lt a1F b9f) (nD (treeB (.sub a0z b9f)) (nD (treeB (.add (.sub a0z b9f) a1F)) (.ite (.lt (.add (.sub a0z b9f) a1F) a0t) a4C d0n))) d0n) (.ite e2D (.ite (.lt a1B a0N) (nD (treeB (.sub a0v a0N)) (nD (treeB (.add (.sub a0v a0N) a1B)) (.ite (.lt (.add (.sub a0v a0N) a1B) a0p) a4C b6n))) b6n) (.ite e0U (.ite (.lt a1b a0C) (nD (treeB (.sub a0r a0C)) (nD (treeB (.add (.sub a0r a0C) a1b)) (.ite (.lt (.add (.sub a0r a0C) a1b) a0g) a4C b4g))) b4g) (.ite e2c (.ite (.lt a1m a0B) (nD (treeB (.sub a0o a0B)) (nD (treeB (.add (.sub a0o a0B) a1m)) (.ite (.lt (.add (.sub a0o a0B) a1m) a0f) a4C b3X))) b3X) (.ite e1f (.ite (.lt a0X a0y) (nD (treeB (.sub a0l a0y)) (nD (treeB (.add (.sub a0l a0y) a0X)) (.ite (.lt (.add (.sub a0l a0y) a0X) a0k) a4C b4k))) b4k) .stuck)))))) rF)
def a3K:Qq:=⟨[(.sh (.agg [jD,jD,jD,jD,jD,jD])),(.sh (.agg [jD,jD,jD,jD,jD,jD])),(.sh (.agg [jD,jD,jD,jD,jD,jD])),(.sh (.agg [jD,jD,jD,jD,jD,jD]))],b4J,[a7f],nO,nO⟩
def c9W:List Cfg:=[{todo:=[(.code (tfR 5 20)),(.inLoop (tfR 5 20)),(.inBlock 0),(.code [tt,tt])],sl:=jkR 0 4++[(.ptr 0 0),(.ptr 1 0),(.ptr 2 0),(.ptr 3 0),(.junk 4),(.junk 5),(jA 0)]++jkR 6 27,H:=[(.cells b3U 51 ff),(.cells b6q 51 ff),(.cells e1j 51 ff),(.cells c5Q 51 ff)],ni:=25,nb:=0,nv:=0,nj:=33}]
def d2m:=okg 91 a3K c9W func91 call91 ff ff [(tfR 5 20)]
def b8L:PT:=(.ite (.le a0k a0d) (.ret ff (.bool (.le a0d a0f)) []) rF)
def b8z:Qq:=⟨[(.sh (.one jD)),(.sh (.one jD)),(.sh (.one jD))],b8L,[],nO,nO⟩
def d5x:=okg 99 b8z [] func99 call99 ff ff
def a8H:PT:=(cA 102 [a0E,a1L] [] a1A (.ite a4h a8l (nD a3h (lO ff (.ea 1 a0d 4 3) b6e (jU 0 [a0k,a0q] [] [a1i,a1j,a0Q,a1f,a1d])))))
def a4p:PT:=(nD a2c (.ite d1f (nD a2H (lO tt a2R a2W (cA 106 [(.agg [a0Q,a1f,a1d,a1i]),b0a] [] a0W (nD a1M (jU 0 [(.mn a0d a0o),a1X] [] e2h))))) d1u))
def a3Q:Qq:=⟨[(.sh (.agg [.val,.val,.val,.val])),(.sh (.one jD)),(.sh (.one .val))],a8H,[a4p],nO,nO⟩
def c0N:List Cfg:=[{todo:=[(.code (tfR 7 116)),(.inLoop (tfR 7 116)),(.inBlock 0),(.code [tt,tt,tt,tt])],sl:=[(.junk 0),(.junk 1),(.va 0),(.ptr 0 0),.undef,.undef,(.junk 2),(jA 0),(jA 1)]++jkR 3 25++[.undef],H:=[(.cells [a0Q,a1f,a1d,a1i] 27 ff)],ni:=2,nb:=0,nv:=5,nj:=28}]
def c2F:=okg 107 a3Q c0N func107 call107 ff ff [(tfR 7 116)]
def c2i:PT:=(cA 57 a0J [] a2n (nD b0j (jU 0 [b1d,a0q,a0d,a0k,a0f,a0g,a0p,a0t,a0q,a0q,a0q,a0q,a0q,a0q] [] [a1d,a1j,a0Q,a1f])))
def b1w:PT:=(.ite a1p (nD a2H (lO ff (.ea 0 a0k 3 0) d6o (.ite b3V (nD (treeB c2H) (.ite b3V (nD a1M (jU 0 [a0d,a1X,a0f,a0g,a0p,a0t,a0u,c2H,a0o,a0r,a0v,a0z,a0D,a0C] [] e1Z)) (.ite c2b (nD a1M (jU 0 [a0d,a1X,a0f,a0g,a0p,a0t,a0u,c2H,a0o,a0r,a0v,a0z,a0C,a0y] [] e1Z)) (.ite c2N (nD a1M (jU 0 [a0d,a1X,a0f,a0g,a0p,a0t,a0u,c2H,a0o,a0r,a0v,a0C,a0D,a0y] [] e1Z)) (.ite c2e (nD a1M (jU 0 [a0d,a1X,a0f,a0g,a0p,a0t,a0u,c2H,a0o,a0r,a0C,a0z,a0D,a0y] [] e1Z)) (.ite c2c (nD a1M (jU 0 [a0d,a1X,a0f,a0g,a0p,a0t,a0u,c2H,a0o,a0C,a0v,a0z,a0D,a0y] [] e1Z)) (.ite c2S (nD a1M (jU 0 [a0d,a1X,a0f,a0g,a0p,a0t,a0u,c2H,a0C,a0r,a0v,a0z,a0D,a0y] [] e1Z)) .stuck))))))) (.ite c2b (nD (treeB b4a) (.ite b3V (nD a1M (jU 0 [a0d,a1X,a0f,a0g,a0p,a0t,b4a,a0l,a0o,a0r,a0v,a0z,a0D,a0C] [] e1Z)) (.ite c2b (nD a1M (jU 0 [a0d,a1X,a0f,a0g,a0p,a0t,b4a,a0l,a0o,a0r,a0v,a0z,a0C,a0y] [] e1Z)) (.ite c2N (nD a1M (jU 0 [a0d,a1X,a0f,a0g,a0p,a0t,b4a,a0l,a0o,a0r,a0v,a0C,a0D,a0y] [] e1Z)) (.ite c2e (nD a1M (jU 0 [a0d,a1X,a0f,a0g,a0p,a0t,b4a,a0l,a0o,a0r,a0C,a0z,a0D,a0y] [] e1Z)) (.ite c2c (nD a1M (jU 0 [a0d,a1X,a0f,a0g,a0p,a0t,b4a,a0l,a0o,a0C,a0v,a0z,a0D,a0y] [] e1Z)) (.ite c2S (nD a1M (jU 0 [a0d,a1X,a0f,a0g,a0p,a0t,b4a,a0l,a0C,a0r,a0v,a0z,a0D,a0y] [] e1Z)) .stuck))))))) (.ite c2N (nD (treeB c3g) (.ite b3V (nD a1M (jU 0 [a0d,a1X,a0f,a0g,a0p,c3g,a0u,a0l,a0o,a0r,a0v,a0z,a0D,a0C] [] e1Z)) (.ite c2b (nD a1M (jU 0 [a0d,a1X,a0f,a0g,a0p,c3g,a0u,a0l,a0o,a0r,a0v,a0z,a0C,a0y] [] e1Z)) (.ite c2N (nD a1M (jU 0 [a0d,a1X,a0f,a0g,a0p,c3g,a0u,a0l,a0o,a0r,a0v,a0C,a0D,a0y] [] e1Z)) (.ite c2e (nD a1M (jU 0 [a0d,a1X,a0f,a0g,a0p,c3g,a0u,a0l,a0o,a0r,a0C,a0z,a0D,a0y] [] e1Z)) (.ite c2c (nD a1M (jU 0 [a0d,a1X,a0f,a0g,a0p,c3g,a0u,a0l,a0o,a0C,a0v,a0z,a0D,a0y] [] e1Z)) (.ite c2S (nD a1M (jU 0 [a0d,a1X,a0f,a0g,a0p,c3g,a0u,a0l,a0C,a0r,a0v,a0z,a0D,a0y] [] e1Z)) .stuck))))))) (.ite c2e (nD (treeB c1Z) (.ite b3V (nD a1M (jU 0 [a0d,a1X,a0f,a0g,c1Z,a0t,a0u,a0l,a0o,a0r,a0v,a0z,a0D,a0C] [] e1Z)) (.ite c2b (nD a1M (jU 0 [a0d,a1X,a0f,a0g,c1Z,a0t,a0u,a0l,a0o,a0r,a0v,a0z,a0C,a0y] [] e1Z)) (.ite c2N (nD a1M (jU 0 [a0d,a1X,a0f,a0g,c1Z,a0t,a0u,a0l,a0o,a0r,a0v,a0C,a0D,a0y] [] e1Z)) (.ite c2e (nD a1M (jU 0 [a0d,a1X,a0f,a0g,c1Z,a0t,a0u,a0l,a0o,a0r,a0C,a0z,a0D,a0y] [] e1Z)) (.ite c2c (nD a1M (jU 0 [a0d,a1X,a0f,a0g,c1Z,a0t,a0u,a0l,a0o,a0C,a0v,a0z,a0D,a0y] [] e1Z)) (.ite c2S (nD a1M (jU 0 [a0d,a1X,a0f,a0g,c1Z,a0t,a0u,a0l,a0C,a0r,a0v,a0z,a0D,a0y] [] e1Z)) .stuck))))))) (.ite c2c (nD (treeB c2y) (.ite b3V (nD a1M (jU 0 [a0d,a1X,a0f,c2y,a0p,a0t,a0u,a0l,a0o,a0r,a0v,a0z,a0D,a0C] [] e1Z)) (.ite c2b (nD a1M (jU 0 [a0d,a1X,a0f,c2y,a0p,a0t,a0u,a0l,a0o,a0r,a0v,a0z,a0C,a0y] [] e1Z)) (.ite c2N (nD a1M (jU 0 [a0d,a1X,a0f,c2y,a0p,a0t,a0u,a0l,a0o,a0r,a0v,a0C,a0D,a0y] [] e1Z)) (.ite c2e (nD a1M (jU 0 [a0d,a1X,a0f,c2y,a0p,a0t,a0u,a0l,a0o,a0r,a0C,a0z,a0D,a0y] [] e1Z)) (.ite c2c (nD a1M (jU 0 [a0d,a1X,a0f,c2y,a0p,a0t,a0u,a0l,a0o,a0C,a0v,a0z,a0D,a0y] [] e1Z)) (.ite c2S (nD a1M (jU 0 [a0d,a1X,a0f,c2y,a0p,a0t,a0u,a0l,a0C,a0r,a0v,a0z,a0D,a0y] [] e1Z)) .stuck))))))) (.ite c2S (nD (treeB c1R) (.ite b3V (nD a1M (jU 0 [a0d,a1X,c1R,a0g,a0p,a0t,a0u,a0l,a0o,a0r,a0v,a0z,a0D,a0C] [] e1Z)) (.ite c2b (nD a1M (jU 0 [a0d,a1X,c1R,a0g,a0p,a0t,a0u,a0l,a0o,a0r,a0v,a0z,a0C,a0y] [] e1Z)) (.ite c2N (nD a1M (jU 0 [a0d,a1X,c1R,a0g,a0p,a0t,a0u,a0l,a0o,a0r,a0v,a0C,a0D,a0y] [] e1Z)) (.ite c2e (nD a1M (jU 0 [a0d,a1X,c1R,a0g,a0p,a0t,a0u,a0l,a0o,a0r,a0C,a0z,a0D,a0y] [] e1Z)) (.ite c2c (nD a1M (jU 0 [a0d,a1X,c1R,a0g,a0p,a0t,a0u,a0l,a0o,a0C,a0v,a0z,a0D,a0y] [] e1Z)) (.ite c2S (nD a1M (jU 0 [a0d,a1X,c1R,a0g,a0p,a0t,a0u,a0l,a0C,a0r,a0v,a0z,a0D,a0y] [] e1Z)) .stuck))))))) .stuck)))))))) (.ret ff (.tup [b0a,b9U]) []))
def a5F:Qq:=⟨[(.sh (.agg [.val,.val,.val,.val]))],c2i,[b1w],nO,nO⟩
def d6V:List Cfg:=[{todo:=[(.code (tfR 6 52)),(.inLoop (tfR 6 52)),(.inBlock 0),(.code [tt,tt,tt])],sl:=[(.junk 0),(.junk 1),(.ptr 1 0),(.ptr 2 0),.undef]++jkR 2 5++[(.va 0),(jA 0),(jA 1)]++jkR 7 17++[.undef,.undef],H:=[(.cells [a0Q,a1f,a1d,a1j] 27 ff),(.cells b4j 51 ff),(.cells a5t 51 ff)],ni:=14,nb:=0,nv:=4,nj:=24}]
def d9e:=okg 115 a5F d6V func115 call115 ff ff [(tfR 6 52)]
def c3f:PT:=(cA 136 [a1L] [] a1A (.ite a4h b6o a8l))
def c2d:Qq:=⟨[(.sh (.one jD))],c3f,[],nO,nO⟩
def d9i:=okg 123 c2d [] func123 call123 ff ff
def a8g:PT:=(cA 63 a0J [] a0W (.ite (.not b2s) a8l (cA 85 [e1K] [] a0W (.ite d6s a8l (nD a2c (jU 0 [a0q,a8b,a0q,a0d,a0k,a0f,a0g,a0p,a0t] [] [a0Q,a1j]))))))
def a3C:PT:=(.ite c0i (nD b6k (lO ff (.ea 1 a0f 5 0) d9m (.ite (.eq a0f d0U) (.callv 0 c2l a0W (nD (treeB (.mul a0o a0y)) (nD (treeB (.add a0d (.mul a0o a0y))) (jU 0 [(.add a0d (.mul a0o a0y)),a0k,d1F,a0g,a0p,a0t,a0u,a0l,a0o] [] c2f)))) (.ite (.eq a0f a4P) (.callv 0 c2l a0W (nD (treeB (.mul a0l a0y)) (nD (treeB (.add a0d (.mul a0l a0y))) (jU 0 [(.add a0d (.mul a0l a0y)),a0k,d0U,a0g,a0p,a0t,a0u,a0l,a0o] [] c2f)))) (.ite (.eq a0f d0i) (.callv 0 c2l a0W (nD (treeB (.mul a0u a0y)) (nD (treeB (.add a0d (.mul a0u a0y))) (jU 0 [(.add a0d (.mul a0u a0y)),a0k,a4P,a0g,a0p,a0t,a0u,a0l,a0o] [] c2f)))) (.ite (.eq a0f d0c) (.callv 0 c2l a0W (nD (treeB (.mul a0t a0y)) (nD (treeB (.add a0d (.mul a0t a0y))) (jU 0 [(.add a0d (.mul a0t a0y)),a0k,d0i,a0g,a0p,a0t,a0u,a0l,a0o] [] c2f)))) (.ite (.eq a0f d1O) (.callv 0 c2l a0W (nD (treeB (.mul a0p a0y)) (nD (treeB (.add a0d (.mul a0p a0y))) (jU 0 [(.add a0d (.mul a0p a0y)),a0k,d0c,a0g,a0p,a0t,a0u,a0l,a0o] [] c2f)))) (.ite c5R (.callv 0 c2l a0W (nD (treeB (.mul a0g a0y)) (nD (treeB (.add a0d (.mul a0g a0y))) (jU 0 [(.add a0d (.mul a0g a0y)),a0k,d1O,a0g,a0p,a0t,a0u,a0l,a0o] [] c2f)))) .stuck)))))))) d1u)
def a3M:Qq:=⟨[(.sh (.agg [.val,jD,jD,jD,jD,jD,jD])),(.sh (.one .val))],a8g,[a3C],nO,nO⟩
def c8R:List Cfg:=[{todo:=[(.code (tfR 7 116)),(.inLoop (tfR 7 116)),(.inBlock 0),(.code [tt,tt,tt,tt])],sl:=[(.junk 0),(.va 0),(.ptr 0 0),.undef,(.junk 1),(jA 0)]++jkR 2 13++[(.va 1),(jA 1),(jA 2)]++jkR 15 15++[.undef],H:=[(.cells [a0Q,a1E,a2Y,a2u,a2h,a2k,a2s] 173 ff)],ni:=9,nb:=0,nv:=2,nj:=30}]
def d2G:=okg 131 a3M c8R func131 call131 ff ff [(tfR 7 116)] [] [(31,[2])]
def b9G:PT:=(.ite c5L rF (.ite (.lt b6p a0d) rF (.ite d1H rF (.ite (.lt b6p a0k) rF (.ite c5C rF (.ite (.lt b6p a0f) rF (.ite c0o rF (.ite a8T rF (.ite d6m rF (.ite (.lt b6p a0p) rF (.ite b6f rF (.ite (.lt b6p a0t) rF (cA 85 [c0j] [] a0W (.ret ff (.bool c0x) []))))))))))))))
def b9z:Qq:=⟨[(.sh (.agg [jD,jD,jD,jD,jD,jD,jD,jD,jD,jD,jD,jD]))],b9G,[],nO,nO⟩
def d6O:=okg 139 b9z [] func139 call139 ff ff
def a4E:PT:=(.ite e1f (cA 24 [a1j,a1P,b6g] [] a0W e6z) (.ite e2c (cA 25 a0J [] e5L (.ret tt (.tup [b3K,a2f]) [])) (.ite e0U (cA 36 a0J [] a0W e6z) (.ite e2D (cA 37 [a1j,a1P] [] a0W e6z) (cA 27 [a1j,a1N] [] a0W e6z)))))
def b5t:Qq:=⟨[(.sh (.one .val)),(.sh (.agg [jD,jD,jD,jD,jD,jD,jD,jD,jD]))],a4E,[],nO,nO⟩
def d3W:=okg 12 b5t [] func12 call12 tt tt
def b3q:PT:=(nD e0l (.ite b4c (.ret tt .nilS []) (nD e1G (lO ff a1k a5K (cA 45 [a0Q,(.fn 46 0 [])] [] a3x (.ret tt a1f []))))))
def b3w:Qq:=⟨[(.sh (.one .val))],b3q,[],nO,nO⟩
def d0G:=okg 20 b3w [] func20 call20 tt tt
def c4n:PT:=(cA 63 a0J [] a0W (.ite d0t d1u (cA 64 [a0Q] [] a0W (.ite (.not c5z) c1Y (cA 65 [a0E] [] a0W (.ite (.not c5R) (.ret ff a1N []) (cA 66 [a0E] [] a0W (.ret ff a1E []))))))))
def c4E:Qq:=⟨[(.sh (.agg [.val,.val,.val,.val]))],c4n,[],nO,nO⟩
def e2B:=okg 28 c4E [] func28 call28 ff ff
def b1p:PT:=(nD e0l (.ite b4c a9Y (nD e1G (lO ff a7E c0h (.ite a3E c5y (cA 31 a0J [] [] (nD e1G (.storeM a7E [b1e] a0O))))))))
def b1u:Qq:=⟨[(.sh (.one .val))],b1p,[],nO,nO⟩
def d3R:=okg 36 b1u [] func36 call36 tt tt
def b2R:PT:=(nD a2c (.ite d5B d0p (nD a2c (.ite c0c d6w b4o))))
def a6o:PT:=(nD a2c (.ite e0Z (nD b6b (lO ff (.ea 0 a0d 4 0) a5K (cA 77 [a0Q] [] a1A (.ite a4h a1U (nD b6b (lO ff (.ea 0 a0d 4 0) a5K (cA 78 [a1j,a1f] [] [a7e,b5T] (.ite (.not (.eq a0k a0d)) d6h (nD b6b (lO ff (.ea 0 a0d 4 1) b6e (.ite c5C b6o (nD b6b (lO ff (.ea 0 a0d 4 1) b6e (.ite b0X b6o (nD b6b (lO ff (.ea 0 a0d 4 2) b6e (.ite d6m b6o (nD b6b (lO ff (.ea 0 a0d 4 2) b6e (.ite (.lt b6p a0t) b6o (nD b6b (lO ff (.ea 0 a0d 4 3) b6e (.ite (.lt a0u a0q) b6o (nD b6b (lO ff (.ea 0 a0d 4 3) b6e (.ite (.lt (.l 24000) a0l) b6o d1s)))))))))))))))))))))))))) a8l))
def a5r:Qq:=⟨[(.sh (.one .val))],b2R,[a6o],nO,nO⟩
def c6w:List Cfg:=[{todo:=[(.code (tfR 7 116)),(.inLoop (tfR 7 116)),(.inBlock 0),(.code [tt,tt,tt,tt])],sl:=[(.va 0),.undef,(.junk 0),(jA 0)]++jkR 1 80,H:=[],ni:=1,nb:=0,nv:=1,nj:=81}]
def c9e:=okg 44 a5r c6w func44 call44 ff ff [(tfR 7 116)]
def b4F:PT:=(nD a2c (.mkM a8b a3H 4 1 1 (.copyM 1 0 1 a1w)))
def b4P:Qq:=⟨[(.sh (.one .val))],b4F,[],nO,nO⟩
def d2N:=okg 52 b4P [] func52 call52 tt tt
def c1T:PT:=(cA 94 a0J [] a2n (cA 93 [c0j,e1K] [] a2n (.ret ff (.agg b9S) [])))
def c2M:Qq:=⟨[(.sh (.agg [jD,jD,jD,jD,jD,jD])),(.sh (.one .val))],c1T,[],nO,nO⟩
def d9R:=okg 60 c2M [] func60 call60 tt ff
def a2l:PT:=(nD a2c (.ite b4c d5Z (.app nO (.lit []) 4 (.app (sm 1) (.va 0) 4 d1m))))
def a8L:Qq:=⟨[(.sh (.one .val))],a2l,[],nO,nO⟩
def b3T:List Cfg:=[]
def b2a:PT:=(nD b3Z (.ite (.lt c0v d1O) rF (nD b3Z (.ite (.lt (.l 12) c0v) rF b4o))))
def a5Z:PT:=(nD b3Z (.ite (.lt a0d c0v) (nD b3Z (nD e6d (.ite (.le (.l 97) d5U) (nD b3Z (nD e6d (.ite (.not (.le d5U (.l 122))) e1L d1s))) e1L))) a4C))
def a4W:Qq:=⟨[(.sh (.one .val))],b2a,[a5Z],nO,nO⟩
def c4S:List Cfg:=[{todo:=[(.code (tfR 6 52)),(.inLoop (tfR 6 52)),(.inBlock 0),(.code [tt,tt,tt])],sl:=[(.va 0),.undef,(.junk 0),(jA 0)]++jkR 1 49,H:=[],ni:=1,nb:=0,nv:=1,nj:=50}]
def c7Y:=okg 76 a4W c4S func76 call76 ff ff [(tfR 6 52)]
def a9F:PT:=(cA 82 a7K [] a1A (.ite a3E a4C (cA 83 a7K [] a1A (.ret ff a8U []))))
def a9N:Qq:=⟨[(.sh (.agg [.val,.val,.val,.val,jD,.val])),(.sh (.agg [jD,jD,jD,jD,jD,jD,jD,jD,jD,jD,jD,jD]))],a9F,[],nO,nO⟩
def c4C:=okg 84 a9N [] func84 call84 ff ff
def b5Q:PT:=a6f
def a8a:PT:=(.ite e6X (.ite d6F (.ite (.lt a2A a0T) (nD (treeB (.sub a0T a2A)) (nD (treeB (.sub a0D a0u)) (nD (treeB a4H) (jU 0 [d1F,a0k,a0f,a0g,a0p,a0t,a0u,a0l,a0o,a0r,a0v,a0z,a0D,a0y,a0B,a0C,a0N,b9f,a0T,a0X,a1m,a1b,a1B,a1F,a4H] [] [])))) d1E) (.ite e2t (.ite (.lt a1F b9f) (nD (treeB (.sub b9f a1F)) (nD (treeB (.sub a0z a0t)) (nD (treeB a4K) (jU 0 [d0U,a0k,a0f,a0g,a0p,a0t,a0u,a0l,a0o,a0r,a0v,a0z,a0D,a0y,a0B,a0C,a0N,b9f,a0T,a0X,a1m,a1b,a1B,a4K,a2A] [] [])))) d0n) (.ite e2D (.ite (.lt a1B a0N) (nD (treeB (.sub a0N a1B)) (nD (treeB (.sub a0v a0p)) (nD (treeB a5Q) (jU 0 [a4P,a0k,a0f,a0g,a0p,a0t,a0u,a0l,a0o,a0r,a0v,a0z,a0D,a0y,a0B,a0C,a0N,b9f,a0T,a0X,a1m,a1b,a5Q,a1F,a2A] [] [])))) b6n) (.ite e0U (.ite (.lt a1b a0C) (nD (treeB (.sub a0C a1b)) (nD (treeB (.sub a0r a0g)) (nD (treeB a6E) (jU 0 [d0i,a0k,a0f,a0g,a0p,a0t,a0u,a0l,a0o,a0r,a0v,a0z,a0D,a0y,a0B,a0C,a0N,b9f,a0T,a0X,a1m,a6E,a1B,a1F,a2A] [] [])))) b4g) (.ite e2c (.ite (.lt a1m a0B) (nD (treeB (.sub a0B a1m)) (nD (treeB (.sub a0o a0f)) (nD (treeB a8Q) (jU 0 [d0c,a0k,a0f,a0g,a0p,a0t,a0u,a0l,a0o,a0r,a0v,a0z,a0D,a0y,a0B,a0C,a0N,b9f,a0T,a0X,a8Q,a1b,a1B,a1F,a2A] [] [])))) b3X) (.ite e1f (.ite (.lt a0X a0y) (nD (treeB (.sub a0y a0X)) (nD (treeB (.sub a0l a0k)) (nD (treeB b3Y) (jU 0 [d1O,a0k,a0f,a0g,a0p,a0t,a0u,a0l,a0o,a0r,a0v,a0z,a0D,a0y,a0B,a0C,a0N,b9f,a0T,b3Y,a1m,a1b,a1B,a1F,a2A] [] [])))) b4k) .stuck)))))) (.ret ff (.agg c5Q) []))
def a4d:Qq:=⟨[(.sh (.agg [jD,jD,jD,jD,jD,jD])),(.sh (.agg [jD,jD,jD,jD,jD,jD])),(.sh (.agg [jD,jD,jD,jD,jD,jD])),(.sh (.agg [jD,jD,jD,jD,jD,jD]))],b5Q,[a8a],nO,nO⟩
def d0B:List Cfg:=[{todo:=[(.code (tfR 5 20)),(.inLoop (tfR 5 20)),(.inBlock 0),(.code [tt,tt])],sl:=jkR 0 4++[(.ptr 0 0),(.ptr 1 0),(.ptr 2 0),(.ptr 3 0),(.ptr 4 0),(.junk 4),(jA 0)]++jkR 5 32++[.undef],H:=[(.cells b3U 51 ff),(.cells b6q 51 ff),(.cells e1j 51 ff),(.cells c5Q 51 ff),(.cells a3z 51 ff)],ni:=25,nb:=0,nv:=0,nj:=37}]
def d3K:=okg 92 a4d d0B func92 call92 ff ff [(tfR 5 20)]
def c3k:PT:=(cA 85 [e1K] [] a0W (.ite (.not b2s) a8l (nD a1R (nD (treeB (.mul d1O f0x)) (nD a1M (nD (treeB (.mul (.mul d1O f0x) a1X)) (nD a0K (nD (treeB e2l) (nD d6B (nD (treeB (.mul e2l (jP 3))) (nD (treeB (jP 4)) (nD (treeB d6A) (nD b9Z (nD (treeB (.mul d6A c3n)) (.ite (.lt (.l 1024) (.mul d6A c3n)) a8l (.ret ff (.int .i64 (.mul d6A c3n)) []))))))))))))))))
def c2C:Qq:=⟨[(.sh (.agg [jD,jD,jD,jD,jD,jD]))],c3k,[],nO,nO⟩
def e0b:=okg 100 c2C [] func100 call100 ff ff
def a9m:PT:=(.app nO (.lit [[(jE 0),(jE 0),(jE 0),(jE 0),(jE 0),(jE 0)]]) 6 b1c)
def a4F:PT:=(nD a2c (.ite e0Z (nD b6b (lO ff (.ea 0 a0d 12 6) a2W (.app nO (.lit [[(jA 1),(jA 2),(jA 3),(jA 4),(jA 5),(jA 6)]]) 6 (.app (sm 1) (.va 2) 6 (nD a1R (jU 0 [f0x] [] [a1j,a1d])))))) (nD a3Z (.mkM a0P [a1h] 2 1 8 (jU 1 [a0q] [] c2x)))))
def a4G:PT:=(nD a3Z (.ite (.le a0d a0P) (jU 2 [a0d,a0q] [(.t tt)] c2x) rF))
def a3n:PT:=(nD a2c (.ite d1f (jU 3 [a0d,a0k,a0q] a6Z c2x) (.ite a3E a4C (nD a1R (jU 1 [f0x] [] c2x)))))
def b1s:PT:=(lO ff (.ea 2 a0f 1 0) b6e (cA 103 [b6g,d0j] [] a0W (nD (treeB (.add a4c (.a 28))) (cA 103 [e8x,e8l] [] a0W (nD (treeB e0F) (jU 4 [a0d,a0k,a0f,e0F,a0q] a6Z c2x))))))
def b1n:PT:=(lO ff (.ea 2 a0f 1 0) b6e (nD (treeB (.add (.a 28) a4c)) (cA 103 [e8x,e8l] [] a0W (nD (treeB e8n) (jU 4 [a0d,a0k,a0f,e8n,a0q] a6Z c2x)))))
def b1o:PT:=(cA 103 [e8x,e8l] [] a0W (lO ff (.ea 2 a0f 1 0) b6e (nD (treeB (.add (.a 29) a4c)) (nD (treeB e6r) (jU 4 [a0d,a0k,a0f,e6r,a0q] a6Z c2x)))))
def b1h:PT:=(cA 103 [b6g,d0j] [] a0W (.both b1n b1o))
def a3P:PT:=(nD a3Z (.ite (.lt a0f a0P) (nD (treeI a0f a2Q) (nD a2H (nD a2H (nD a2H (nD b6k (lO tt e7U a2W (lO tt a2R a2W (lO tt e7U a2W (lO tt (.ea 1 a0f 6 0) a2W (.both b1s b1h)))))))))) (nD a1M (jU 2 c0g a6Z c2x))))
def a2B:PT:=(nD a3Z (.ite (.lt a0p a0P) (nD (treeI a0p a0P) (nD a2H (lO tt (.ea 1 a0p 6 0) a2W (lO tt a2R a2W (.ite (.and (.eq a0t a0z) (.and (.eq a0u a0D) (.and (.eq a0l a0y) (.and (.eq a0o a0B) (.and (.eq a0r a0C) (.eq a0v a0N)))))) (nD (treeI a0p a2Q) (lO ff (.ea 2 a0p 1 0) b6e (.ite (.lt b9f a0g) (nD (treeI a0p a2Q) (.storeM (.ea 2 a0p 1 0) [a1E] (nD (treeB (jP 4)) (jU 4 [a0d,a0k,a0f,a0g,(jP 4)] [(.t ff)] c2x)))) e7n))) e7n))))) (nD a0K (jU 3 e7O a6Z c2x))))
def a0M:Qq:=⟨[(.sh (.one .val))],a9m,[a4F,a4G,a3n,a3P,a2B],nO,nO⟩
def c1D:List Cfg:=[{todo:=[(.code (tfR 6 52)),(.inLoop (tfR 6 52)),(.inBlock 0),(.code [tt,tt,tt])],sl:=[(.va 0),.undef,(.junk 0),(.va 1),(jA 0)]++udR 7++jkR 1 16++udR 77,H:=[(.row 1 51 6)],ni:=1,nb:=0,nv:=2,nj:=17},
 {todo:=[(.code (tfR 8 244)),(.inLoop (tfR 8 244)),(.inBlock 2),(.code (tfR 5 31))],sl:=[(.va 0),.undef,(.junk 0),(.va 1),(.junk 1),(.va 2),(jA 0)]++jkR 2 98,H:=[(.row 1 51 6)],ni:=1,nb:=0,nv:=3,nj:=100},
 {todo:=[(.code (tfR 16 62612)),(.inLoop (tfR 16 62612)),(.inBlock 4),(.code (tfR 13 7827)),(.inBlock 3),(.code (tfR 10 979)),(.inLoop (tfR 8 244)),(.inBlock 2),(.code (tfR 5 31))],sl:=[(.va 0),.undef,(.junk 0),(.va 1),(.junk 1),(.va 2),(jA 0),(.bool (.a 0)),(jA 1)]++jkR 2 96,H:=[(.row 1 51 6)],ni:=2,nb:=1,nv:=3,nj:=98},
 {todo:=[(.code (tfR 22 4007204)),(.inLoop (tfR 22 4007204)),(.inBlock 6),(.inBlock 5),(.code (tfR 18 250451)),(.inLoop (tfR 16 62612)),(.inBlock 4),(.code (tfR 13 7827)),(.inBlock 3),(.code (tfR 10 979)),(.inLoop (tfR 8 244)),(.inBlock 2),(.code (tfR 5 31))],sl:=[(.va 0),.undef,(.junk 0),(.va 1),(.junk 1),(.va 2),(jA 0),(.bool (.a 0)),(jA 1),(jA 2)]++jkR 2 95,H:=[(.row 1 51 6)],ni:=3,nb:=1,nv:=3,nj:=97},
 {todo:=[(.code (tfR 29 512922188)),(.inLoop (tfR 29 512922188)),(.inBlock 8),(.inBlock 7),(.code (tfR 24 16028819)),(.inLoop (tfR 22 4007204)),(.inBlock 6),(.inBlock 5),(.code (tfR 18 250451)),(.inLoop (tfR 16 62612)),(.inBlock 4),(.code (tfR 13 7827)),(.inBlock 3),(.code (tfR 10 979)),(.inLoop (tfR 8 244)),(.inBlock 2),(.code (tfR 5 31))],sl:=[(.va 0),.undef,(.junk 0),(.va 1),(.junk 1),(.va 2),(jA 0),(.bool (.a 0)),(jA 1),(jA 2),(jA 3),(jA 4)]++jkR 2 93,H:=[(.row 1 51 6)],ni:=5,nb:=1,nv:=3,nj:=95}]
def c3F:=okg 108 a0M c1D func108 call108 ff ff [(tfR 6 52),(tfR 8 244),(tfR 16 62612),(tfR 22 4007204),(tfR 29 512922188)] [] [] [] [2]
def c1a:PT:=(cA 130 [e1K,c0j] [] a2n (.ret ff (.bool (.and (.eq a0D a0d) (.and (.eq a0y a0k) (.and (.eq a0B a0f) (.and (.eq a0C a0g) (.and (.eq a0N a0p) (.eq b9f a0t))))))) []))
def c0Z:Qq:=⟨[(.sh (.agg [jD,jD,jD,jD,jD,jD])),(.sh (.agg [jD,jD,jD,jD,jD,jD]))],c1a,[],nO,nO⟩
def d8w:=okg 116 c0Z [] func116 call116 ff ff
def c2r:PT:=e6c
def c3q:Qq:=⟨[(.sh (.one (.int .i32)))],c2r,[],nO,nO⟩
def d9X:=okg 124 c3q [] func124 call124 ff ff
def b8M:PT:=(lO ff (.pa 1 0) b6e (.ite (.eq a0g a0p) (.ret tt (jE 1) []) a0O))
def b8y:Qq:=⟨[(.sh (.agg [.val,jD,jD,jD,jD])),.ptr],b8M,[],nO,nO⟩
def d5h:=okg 132 b8y [] func132 call132 tt tt
def c0B:PT:=(cA 81 [e1K,(.agg [d0T,e5K,d5V,e1z,b6m,d5G])] [] a0W (cA 81 [e1K,c0j] [] a0W (nD (treeB (.sub a2A a4D)) (.ret ff (.int .i64 (.sub a2A a4D)) []))))
def c0H:Qq:=⟨[(.sh (.agg [jD,jD,jD,jD,jD,jD,jD,jD,jD,jD,jD,jD])),(.sh (.agg [jD,jD,jD,jD,jD,jD,jD,jD,jD,jD,jD,jD]))],c0B,[],nO,nO⟩
def d7L:=okg 140 c0H [] func140 call140 ff ff
def a3q:PT:=(.ite c0a (cA 38 [e2u,c3d,(.agg e1j)] [] d6n d0W) (.ite (.eq a0v d1O) (cA 39 [e2u] [] d6n (.ite d1J (.ret ff (.tup [c5T,a8U,(jA 29)]) []) d0W)) (.ite (.eq a0v d0c) (cA 40 [e2u] [] d6n d0W) (.ite (.eq a0v d0i) (cA 41 [e2u,c3d] [] d6n d0W) (cA 42 [e2u,a2L] [] d6n d0W)))))
def b2C:Qq:=⟨[(.sh (.agg [.val,.val,.val,.val,jD,jD,jD,jD,.val,jD,jD,jD,jD,jD,jD,.val,.val,.val,.bool])),(.sh (.agg [jD,jD,jD,jD,jD,jD,jD,jD,jD]))],a3q,[],nO,nO⟩
def c9H:=okg 13 b2C [] func13 call13 ff ff
def b0L:PT:=(cA 18 [a0E] [] a0W (.ite d6s e5Z (.ite c5L e7J (nD a3Z (.ite (.le a0P a0d) e7J (cA 47 [e6k] [] a1A (.ite a4h b6o (cA 48 [a0E] [] [(.agg a2W),(.agg a2W)] (cA 49 a0J [] a2n (jU 0 [a0d,a0q,a0k,a0f,a0g,a0p,a0t,a0u,a0o,a0r,a0v,a0z,a0D,a0y,a0B,a0C,a0N,b9f,a0T,a0X,a1m,a1b,a1B,a1F,a2A,a4D] [] e1Z))))))))))
def a5C:PT:=(.ite d5A (.ite a3w (.ite (.lt a4D a0l) e6h (.ite (.not (.eq a0X a0q)) (nD a3h (lO tt c5K b6e (.ite (.not (.eq a0X a8h)) (.ite (.lt a0y a0l) e6h c5O) c5O))) c5O)) (.ite a2C (.ite (.lt a2A a0u) e6h (.ite b0g (nD a3h (lO tt c5K b6e (.ite (.not (.eq a0T a8h)) (.ite (.lt a0D a0u) e6h e7j) e7j))) e7j)) (.ite a2I (.ite (.lt a1F a0t) e6h (.ite (.not d0F) (nD a3h (lO tt c5K b6e (.ite (.not (.eq b9f a8h)) (.ite (.lt a0z a0t) e6h d5Y) d5Y))) d5Y)) (.ite a2Z (.ite (.lt a1B a0p) e6h (.ite a6h (nD a3h (lO tt c5K b6e (.ite (.not (.eq a0N a8h)) (.ite (.lt a0v a0p) e6h d0a) d0a))) d0a)) (.ite a1n (.ite (.lt a1b a0g) e6h (.ite (.not (.eq a0C a0q)) (nD a3h (lO tt c5K b6e (.ite (.not (.eq a0C a8h)) (.ite (.lt a0r a0g) e6h b0Y) b0Y))) b0Y)) (.ite c5z (.ite (.lt a1m a0f) e6h (.ite e2o (nD a3h (lO tt c5K b6e (.ite (.not (.eq a0B a8h)) (.ite (.lt a0o a0f) e6h e1O) e1O))) e1O)) .stuck)))))) (jU 1 e0z [] e1Z))
def a5w:PT:=(nD a0R (.ite (.lt a0k a2Q) (nD c7m (lO ff (.ea 2 a0k 3 0) d6o (cA 50 [a1j,a2f,b0a] [] [a7e,a7e,a7e] (.ite (.eq a0o c3N) d1Q (.ite (.eq a0o a0d) d1Q (nD a1M (jU 1 e1E [] e1Z))))))) a8l))
def a1T:Qq:=⟨[(.sh (.agg [.val,.val,.val,.val])),(.sh (.one jD)),(.sh (.agg [jD,jD,jD,jD,jD,jD]))],b0L,[a5C,a5w],nO,nO⟩
def c4a:List Cfg:=[{todo:=[(.code (tfR 11 2036)),(.inLoop (tfR 11 2036)),(.inBlock 0),(.code (tfR 8 255))],sl:=[(.junk 0),(jA 0),(.junk 1),(.ptr 0 0),.undef,(.ptr 1 0),(.junk 2),(.junk 3),(.ptr 2 0),(.ptr 3 0),(.ptr 4 0),(jA 1)]++udR 5++jkR 4 4++[.undef]++jkR 8 58++udR 37,H:=[(.cells e1Z 27 ff),(.cells b4j 51 ff),(.cells a5t 51 ff),(.cells e7i 51 ff),(.cells e2v 51 ff)],ni:=26,nb:=0,nv:=4,nj:=66},
 {todo:=[(.code (tfR 12 4084)),(.inLoop (tfR 12 4084)),(.inBlock 2),(.code (tfR 9 511))],sl:=[(.junk 0),(jA 0),(.junk 1),(.ptr 0 0),.undef,(.ptr 1 0)]++jkR 2 6++[(jA 1)]++jkR 8 8++[.undef]++jkR 16 95,H:=[(.cells e1Z 27 ff),(.cells b4j 51 ff)],ni:=8,nb:=0,nv:=4,nj:=111}]
def c6Z:=okg 21 a1T c4a func21 call21 ff ff [(tfR 11 2036),(tfR 12 4084)]
def b5s:PT:=d6u
def b5u:Qq:=⟨[(.sh (.agg [jD,jD,jD,jD]))],b5s,[],nO,nO⟩
def d4j:=okg 29 b5u [] func29 call29 ff ff
def a8F:PT:=(nD e0l (.ite b4c a9Y (cA 53 c1x [] a1A (.ite a4h a9Y (nD e1G (lO ff d6x a5K (nD a3h (lO ff (.ea 1 a0d 1 0) c0h (.ite a5W c5y (nD e1G (nD e1G (nD e1G (lO ff d6x a5K (lO ff e1o a5K (lO ff e1c a5K (nD (treeI a0d a2Q) (.storeM (.ea 2 a0d 1 0) [b1e] (nD (treeI a0d b1d) (.storeM (.ea 3 a0d 6 0) a3z (nD (treeI a0d a3W) (.storeM (.ea 4 a0d 1 0) a3H a0O)))))))))))))))))))))
def b1q:Qq:=⟨[(.sh (.one .val)),(.sh (.one jD))],a8F,[],nO,nO⟩
def d4e:=okg 37 b1q [] func37 call37 tt tt
def b0w:PT:=(nD a2c (jU 0 [a8b,a0q] [] [a0Q,.nilS,a1j]))
def a3D:PT:=(.ite a1p (nD c7m (lO ff (.ea 2 a0k 9 0) e1N (.callv 0 [(.agg [a1N,a1E,a2Y,a2u,a2h,a2k,a1d,a1i,a1S])] [(.agg e1N)] (.app nO (.lit [[(jA 8),(jA 9),(jA 10),(jA 11),(jA 12),(jA 13),(.va 6),(.va 7),(.va 8)]]) 9 (.appM a0Q (.va 9) 9 65 (nD a1M (jU 0 c0g [] [a1j,a7s,a1f]))))))) a1w)
def a3J:Qq:=⟨[(.sh (.one .val)),(.sh (.one .val))],b0w,[a3D],nO,nO⟩
def c3R:List Cfg:=[{todo:=[(.code (tfR 6 52)),(.inLoop (tfR 6 52)),(.inBlock 0),(.code [tt,tt,tt])],sl:=[(.junk 0),(.va 0),.undef,.undef,(.junk 1),(.va 1),.undef,(.junk 2),(.va 2),(jA 0),(jA 1)]++jkR 3 10++[.undef],H:=[],ni:=2,nb:=0,nv:=3,nj:=13}]
def c4V:=okg 45 a3J c3R func45 call45 tt tt [(tfR 6 52)] [] [(15,[65])] (live:=tt)
def b8G:PT:=(.ite e5R (nD e1G (lO ff d6x a5K e2k)) rF)
def b8A:Qq:=⟨[(.sh (.one .val)),(.sh (.one jD))],b8G,[],nO,nO⟩
def d5k:=okg 53 b8A [] func53 call53 ff ff
def b3k:PT:=(cA 95 c2h [] a3x (jU 0 [a0v,a0z,a0D,a0y,a0B,a0C,a0q,a0d,a0k,a0f,a0g,a0p,a0t,a0u,a0l,a0o,a0r,a0p,a0t,a0u,a0l,a0o,a0r] [] a0J))
def b2n:PT:=(cA 29 c2h [] a0W (.ite a6h (.ret ff (.tup [e0f,e1x]) []) (.both b3k b3k)))
def a8M:PT:=(.ite (.lt a0u d1F) (.ite (.eq a0u d0U) (.ite (.lt a0q a0t) (cA 96 e0w [] a1A (.ite a3E (.callv 0 [e1x] a0W (jU 0 [a0d,a0k,a0f,a0g,a0p,a0t,d1F,a0l,a0o,a0r,a0v,a0z,a0D,a0y,a0B,a0C,a0N,b9f,a0T,a0X,a1m,a1b,a1F] [] a0J)) d1x)) d1x) (.ite (.eq a0u a4P) (.ite (.lt a0q a0p) (cA 96 e0w [] a1A (.ite a3E (.callv 0 [a5S] a0W (jU 0 [a0d,a0k,a0f,a0g,a0p,a0t,d0U,a0l,a0o,a0r,a0v,a0z,a0D,a0y,a0B,a0C,a0N,b9f,a0T,a0X,a1m,a1F,a1B] [] a0J)) e6P)) e6P) (.ite (.eq a0u d0i) (.ite (.lt a0q a0g) (cA 96 e0w [] a1A (.ite a3E (.callv 0 [b1a] a0W (jU 0 [a0d,a0k,a0f,a0g,a0p,a0t,a4P,a0l,a0o,a0r,a0v,a0z,a0D,a0y,a0B,a0C,a0N,b9f,a0T,a0X,a1F,a1b,a1B] [] a0J)) d5J)) d5J) (.ite (.eq a0u d0c) (.ite (.lt a0q a0f) (cA 96 e0w [] a1A (.ite a3E (.callv 0 [a4J] a0W (jU 0 [a0d,a0k,a0f,a0g,a0p,a0t,d0i,a0l,a0o,a0r,a0v,a0z,a0D,a0y,a0B,a0C,a0N,b9f,a0T,a1F,a1m,a1b,a1B] [] a0J)) d6D)) d6D) (.ite (.eq a0u d1O) (.ite (.lt a0q a0k) (cA 96 e0w [] a1A (.ite a3E (.callv 0 [a2L] a0W (jU 0 [a0d,a0k,a0f,a0g,a0p,a0t,d0c,a0l,a0o,a0r,a0v,a0z,a0D,a0y,a0B,a0C,a0N,b9f,a1F,a0X,a1m,a1b,a1B] [] a0J)) e7F)) e7F) (.ite b2s (.ite (.lt a0q a0d) (cA 96 e0w [] a1A (.ite a3E (.callv 0 [c3d] a0W (jU 0 [a0d,a0k,a0f,a0g,a0p,a0t,d1O,a0l,a0o,a0r,a0v,a0z,a0D,a0y,a0B,a0C,a0N,a1F,a0T,a0X,a1m,a1b,a1B] [] a0J)) a7F)) a7F) .stuck)))))) (cA 96 e0w [] a1A (.ite a4h c3c (.ite (.not (.and (.eq b9f a0z) (.and (.eq a0T a0D) (.and (.eq a0X a0y) (.and (.eq a1m a0B) (.and (.eq a1b a0C) (.eq a1B a0N))))))) (cA 96 [e1F] [] a1A (.ite d1n c3c e0o)) e0o))))
def a4k:Qq:=⟨[(.sh (.agg [jD,jD,jD,jD])),(.sh (.agg [jD,jD,jD,jD,jD,jD])),(.sh (.agg [jD,jD,jD,jD,jD,jD]))],b2n,[a8M],nO,nO⟩
def d2R:List Cfg:=[{todo:=[(.code (tfR 7 116)),(.inLoop (tfR 7 116)),(.inBlock 0),(.code [tt,tt,tt,tt])],sl:=jkR 0 4++[(.ptr 1 0),(.junk 4),(.ptr 3 0),(.junk 5),(.junk 6),(.va 0),(.ptr 4 0)]++jkR 7 6++[.undef,.undef,(.junk 13),(.junk 14),(.junk 15),(.agg [(jA 0),(jA 1),(jA 2),(jA 3),(jA 4),(jA 5)]),(jA 6)]++jkR 16 17++udR 15,H:=[(.cells [a2k,a2s,a2f,a2r] 29 ff),(.cells e0j 38 ff),(.cells c2L 51 ff),(.cells a3z 38 ff),(.cells [c0z,d0T,e5K,d5V,e1z,b6m] 38 ff)],ni:=23,nb:=0,nv:=1,nj:=33}]
def d5f:=okg 61 a4k d2R func61 call61 ff ff [(tfR 7 116)] [] [(34,[2])]
def a2V:PT:=d0g
def b1t:Qq:=⟨[(.sh (.one .val))],a2V,[],nO,nO⟩
def b8N:List Cfg:=[]
def b1U:PT :=
 (nD (.is 3 0)
 (.ite (.sis 0 [])
 rF
 (nD (.is 3 0)
 (.ite (.lt (.l 12) (.stl 0))
  rF
  (nD (.is 3 0)
  (nD (.lt (.l 0) (.stl 0))
  (cA 113 [(.int .u8 (.sat 0 (.l 0)))] [] [(.one .bool)]
  (.ite (.not (.a 0))
  rF
  (cA 114 [(.va 0)] [] [(.agg [jD,.val,jD,jD]),(.one jD)]
  (.ite (.eq (.a 3) (.l 0))
   (nD (.is 3 1)
   (nD (.is 3 0)
   (.ret ff (.bool (.seq 1 0)) [])))
   rF))))))))))
def b1y:Qq:=⟨[(.sh (.one .val))],b1U,[],nO,nO⟩
def c7t:=okg 77 b1y [] func77 call77 ff ff
def c1P:PT:=d0A
def c1S:Qq:=⟨[(.sh (.agg [jD,jD,jD,jD,jD,jD]))],c1P,[],nO,nO⟩
def d9r:=okg 85 c1S [] func85 call85 ff ff
def c7b:PT:=(jU 0 [a0q,a0d,a0k,a0f,a0g,a0p,a0t,a0u,a0l,a0o,a0r,a0v,a0z,a0q,a0q,a0q,a0q,a0q,a0q] [] [])
def b3Q:PT:=(.ite e6X (.ite d6F (.ite (.lt a0D a0u) (nD (treeB (.sub a0u a0D)) (jU 0 [d1F,a0k,a0f,a0g,a0p,a0t,a0u,a0l,a0o,a0r,a0v,a0z,a0D,a0y,a0B,a0C,a0N,b9f,(.sub a0u a0D)] [] [])) (jU 0 [d1F,a0k,a0f,a0g,a0p,a0t,a0u,a0l,a0o,a0r,a0v,a0z,a0D,a0y,a0B,a0C,a0N,b9f,a0T] [] [])) (.ite e2t (.ite (.lt a0z a0t) (nD (treeB (.sub a0t a0z)) (jU 0 [d0U,a0k,a0f,a0g,a0p,a0t,a0u,a0l,a0o,a0r,a0v,a0z,a0D,a0y,a0B,a0C,a0N,(.sub a0t a0z),a0T] [] [])) (jU 0 [d0U,a0k,a0f,a0g,a0p,a0t,a0u,a0l,a0o,a0r,a0v,a0z,a0D,a0y,a0B,a0C,a0N,b9f,a0T] [] [])) (.ite e2D (.ite (.lt a0v a0p) (nD (treeB (.sub a0p a0v)) (jU 0 [a4P,a0k,a0f,a0g,a0p,a0t,a0u,a0l,a0o,a0r,a0v,a0z,a0D,a0y,a0B,a0C,(.sub a0p a0v),b9f,a0T] [] [])) (jU 0 [a4P,a0k,a0f,a0g,a0p,a0t,a0u,a0l,a0o,a0r,a0v,a0z,a0D,a0y,a0B,a0C,a0N,b9f,a0T] [] [])) (.ite e0U (.ite (.lt a0r a0g) (nD (treeB (.sub a0g a0r)) (jU 0 [d0i,a0k,a0f,a0g,a0p,a0t,a0u,a0l,a0o,a0r,a0v,a0z,a0D,a0y,a0B,(.sub a0g a0r),a0N,b9f,a0T] [] [])) (jU 0 [d0i,a0k,a0f,a0g,a0p,a0t,a0u,a0l,a0o,a0r,a0v,a0z,a0D,a0y,a0B,a0C,a0N,b9f,a0T] [] [])) (.ite e2c (.ite (.lt a0o a0f) (nD (treeB (.sub a0f a0o)) (jU 0 [d0c,a0k,a0f,a0g,a0p,a0t,a0u,a0l,a0o,a0r,a0v,a0z,a0D,a0y,(.sub a0f a0o),a0C,a0N,b9f,a0T] [] [])) (jU 0 [d0c,a0k,a0f,a0g,a0p,a0t,a0u,a0l,a0o,a0r,a0v,a0z,a0D,a0y,a0B,a0C,a0N,b9f,a0T] [] [])) (.ite e1f (.ite (.lt a0l a0k) (nD (treeB (.sub a0k a0l)) (jU 0 [d1O,a0k,a0f,a0g,a0p,a0t,a0u,a0l,a0o,a0r,a0v,a0z,a0D,(.sub a0k a0l),a0B,a0C,a0N,b9f,a0T] [] [])) (jU 0 [d1O,a0k,a0f,a0g,a0p,a0t,a0u,a0l,a0o,a0r,a0v,a0z,a0D,a0y,a0B,a0C,a0N,b9f,a0T] [] [])) .stuck)))))) (.ret ff (.agg e1j) []))
def a6X:Qq:=⟨[(.sh (.agg [jD,jD,jD,jD,jD,jD])),(.sh (.agg [jD,jD,jD,jD,jD,jD]))],c7b,[b3Q],nO,nO⟩
def d9h:List Cfg:=[{todo:=[(.code (tfR 6 52)),(.inLoop (tfR 6 52)),(.inBlock 0),(.code [tt,tt,tt])],sl:=[(.junk 0),(.junk 1),(.ptr 0 0),(.ptr 1 0),(.ptr 2 0),(.ptr 3 0),(.junk 2),(jA 0)]++jkR 3 19++[.undef],H:=[(.cells b3U 138 ff),(.cells b6q 138 ff),(.cells a3z 51 ff),(.cells e1j 51 ff)],ni:=19,nb:=0,nv:=0,nj:=22}]
def e3n:=okg 93 a6X d9h func93 call93 ff ff [(tfR 6 52)]
def c4m:PT:=c0k
def a8t:PT:=(.ite a1p (nD c7d (lO ff (.ea 1 a0k 4 0) [.val,jD,jD,jD] c2I)) e7u)
def a9n:Qq:=⟨[(.sh (.one .val)),(.sh (.one .val))],c4m,[a8t],nO,nO⟩
def d7X:List Cfg:=[{todo:=[(.code (tfR 5 20)),(.inLoop (tfR 5 20)),(.inBlock 0),(.code [tt,tt])],sl:=[(.junk 0),(.va 0),.undef,.undef]++jkR 1 4++[(.va 1),(jA 0),(jA 1)]++jkR 5 8++[.undef,(.junk 13)],H:=[],ni:=2,nb:=0,nv:=2,nj:=14}]
def e1X:=okg 101 a9n d7X func101 call101 ff ff [(tfR 5 20)]
def b0N:PT:=(cA 127 a0J [] a2n (jU 0 [a0u,a0q,a0d,a0k,a0f,a0g,a0p,a0t,a0l,a0o,a0r,a0v,a0z,a0D,a0y,a0B,a0C,a0N,b9f,a0T] [] a0J))
def a5E:PT:=(.ite d5A (nD b6b (.ite a3w (lO ff e6p b6e (nD (treeB (.sub a1m a0y)) (.ite (.lt a0q (.sub a1m a0y)) (nD (treeB (.sub a0X (.sub a1m a0y))) (.ite (.lt (.sub a0X (.sub a1m a0y)) a0l) a4C e7s)) e7s))) (.ite a2C (lO ff e7Y b6e (nD (treeB (.sub a1m a0D)) (.ite (.lt a0q (.sub a1m a0D)) (nD (treeB (.sub a0T (.sub a1m a0D))) (.ite (.lt (.sub a0T (.sub a1m a0D)) a0u) a4C e7a)) e7a))) (.ite a2I (lO ff e8b b6e (nD (treeB (.sub a1m a0z)) (.ite (.lt a0q (.sub a1m a0z)) (nD (treeB (.sub b9f (.sub a1m a0z))) (.ite (.lt (.sub b9f (.sub a1m a0z)) a0t) a4C d1o)) d1o))) (.ite a2Z (lO ff e8q b6e (nD (treeB (.sub a1m a0v)) (.ite (.lt a0q (.sub a1m a0v)) (nD (treeB (.sub a0N (.sub a1m a0v))) (.ite (.lt (.sub a0N (.sub a1m a0v)) a0p) a4C e6C)) e6C))) (.ite a1n (lO ff e7V b6e (nD (treeB (.sub a1m a0r)) (.ite (.lt a0q (.sub a1m a0r)) (nD (treeB (.sub a0C (.sub a1m a0r))) (.ite (.lt (.sub a0C (.sub a1m a0r)) a0g) a4C e7E)) e7E))) (.ite c5z (lO ff e8h b6e (nD (treeB (.sub a1m a0o)) (.ite (.lt a0q (.sub a1m a0o)) (nD (treeB (.sub a0B (.sub a1m a0o))) (.ite (.lt (.sub a0B (.sub a1m a0o)) a0f) a4C e5Q)) e5Q))) .stuck))))))) rF)
def a3c:Qq:=⟨[(.sh (.agg [jD,jD,jD,jD,jD,jD])),(.sh (.one .val)),(.sh (.one jD)),(.sh (.agg [jD,jD,jD,jD,jD,jD]))],b0N,[a5E],nO,nO⟩
def c4w:List Cfg:=[{todo:=[(.code (tfR 6 52)),(.inLoop (tfR 6 52)),(.inBlock 0),(.code [tt,tt,tt])],sl:=[(.junk 0),(.va 0),(jA 0),(.junk 1),(.ptr 0 0),.undef,.undef,(.ptr 1 0),(.junk 2),(.ptr 2 0),(jA 1)]++jkR 3 30,H:=[(.cells b4j 51 ff),(.cells a5t 51 ff),(.cells e7i 51 ff)],ni:=20,nb:=0,nv:=1,nj:=33}]
def c7k:=okg 109 a3c c4w func109 call109 tt ff [(tfR 6 52)]
def c1r:PT:=(jU 0 [a0u,a0q,a0d,a0k,a0f,a0g,a0p,a0t,a0l,a0o,a0r,a0v,a0z,a0D] [] e1Z)
def b0p:PT:=(.ite d5A (.ite a3w (.ite b2Y e2z (nD a3h (lO tt c5K b6e (.ite (.eq a0l a0B) e2z (jU 0 [a0d,d1F,a0f,a0g,a0p,a0t,a0u,a0l,a0o,a0r,a0v,a0z,a0D,a0y] [] e1Z))))) (.ite a2C (.ite b2s d5z (nD a3h (lO tt c5K b6e (.ite (.eq a0u a0B) d5z (jU 0 [a0d,d0U,a0f,a0g,a0p,a0t,a0u,a0l,a0o,a0r,a0v,a0z,a0D,a0y] [] e1Z))))) (.ite a2I (.ite (.eq a0t a0q) e7X (nD a3h (lO tt c5K b6e (.ite (.eq a0t a0B) e7X (jU 0 [a0d,a4P,a0f,a0g,a0p,a0t,a0u,a0l,a0o,a0r,a0v,a0z,a0D,a0y] [] e1Z))))) (.ite a2Z (.ite d5X e6l (nD a3h (lO tt c5K b6e (.ite (.eq a0p a0B) e6l (jU 0 [a0d,d0i,a0f,a0g,a0p,a0t,a0u,a0l,a0o,a0r,a0v,a0z,a0D,a0y] [] e1Z))))) (.ite a1n (.ite (.eq a0g a0q) d5H (nD a3h (lO tt c5K b6e (.ite (.eq a0g a0B) d5H (jU 0 [a0d,d0c,a0f,a0g,a0p,a0t,a0u,a0l,a0o,a0r,a0v,a0z,a0D,a0y] [] e1Z))))) (.ite c5z (.ite c5R e6f (nD a3h (lO tt c5K b6e (.ite (.eq a0f a0B) e6f (jU 0 [a0d,d1O,a0f,a0g,a0p,a0t,a0u,a0l,a0o,a0r,a0v,a0z,a0D,a0y] [] e1Z))))) .stuck)))))) (.ret ff b9U []))
def a5n:Qq:=⟨[(.sh (.agg [.val,.val,.val,.val])),(.sh (.agg [jD,jD,jD,jD,jD,jD])),(.sh (.one jD)),(.sh (.agg [jD,jD,jD,jD,jD,jD]))],c1r,[b0p],nO,nO⟩
def d4V:List Cfg:=[{todo:=[(.code (tfR 5 20)),(.inLoop (tfR 5 20)),(.inBlock 0),(.code [tt,tt])],sl:=[(.junk 0),(.junk 1),(jA 0),(.junk 2),(.ptr 0 0),(.ptr 1 0),.undef,(.ptr 2 0),(.ptr 3 0),(.junk 3),(jA 1)]++jkR 4 21++[.undef],H:=[(.cells e1Z 27 ff),(.cells b4j 51 ff),(.cells a5t 51 ff),(.cells a3z 51 ff)],ni:=14,nb:=0,nv:=4,nj:=25}]
def d8h:=okg 117 a5n d4V func117 call117 ff ff [(tfR 5 20)]
def c9v:PT:=(jU 0 [a0d,a0d] [] c2f)
def b2x:PT:=(nD b3Z (.ite (.lt a0k c0v) (nD b3Z (nD (treeI a0k c0v) (nD (.and (.le (.l (-2147483648)) (.sat 0 a0k)) (.le (.sat 0 a0k) (.l 2147483647))) (.callv 1 [(.int .i32 (.sat 0 a0k))] a1A (.ite a3E a5J d6H))))) d6H))
def b4d:Qq:=⟨[(.sh (.one .val)),(.sh (.one jD)),(.sh (.one .val))],c9v,[b2x],nO,nO⟩
def e1e:List Cfg:=[{todo:=[(.code (tfR 5 24)),(.inLoop (tfR 5 24)),(.inBlock 0),(.code [tt,tt,tt])],sl:=[(.va 0),(jA 0),(.va 1),.undef,.undef,.undef,(.junk 0),(jA 1)]++jkR 1 15++udR 4,H:=[],ni:=2,nb:=0,nv:=2,nj:=16}]
def e4E:=okg 125 b4d e1e func125 call125 ff ff [(tfR 5 24)] [] [(14,[4])]
def b9E:PT:=(cA 131 [(.agg [a1j,a1L,a1P,a1N,a1E,a2Y,a2u]),(.fn 138 0 [])] [] a0W (.ret ff a2h []))
def b9v:Qq:=⟨[(.sh (.one .val)),(.sh (.agg [jD,jD,jD,jD,jD,jD]))],b9E,[],nO,nO⟩
def d7i:=okg 133 b9v [] func133 call133 ff ff [] [] [(10,[2])]
def b9I:PT :=
 (.mkMap .i64
 (jU 0 [(.a 0)] [] [(.va 0),(.va 1)]))
def a9w:PT :=
 (.mapGet 1 .i64 (.a 0) (.bool (.t ff)) ff [(.one .bool)]
 (.ite (.not (.a 0))
 (.mapSet 1 .i64 (.a 0) (.bool (.t tt))
 (nD (treeI (.a 0) (.slen 0))
 (lO ff (.ea 0 (.a 0) 1 0) [jD]
 (jU 0 [(.a 1)] [] [(.va 0),(.va 1)]))))
 (.mapClr 1
 (jU 1 [(.a 0)] [] [(.va 0),(.va 1),.nilS]))))
def a7H:PT :=
 (.mapGet 1 .i64 (.a 0) (.bool (.t ff)) ff [(.one .bool)]
 (.ite (.not (.a 0))
 (.mapSet 1 .i64 (.a 0) (.bool (.t tt))
 (.app nO (.lit [[(jA 0)]]) 1
 (.appM (.va 2) (.va 3) 1 3
 (nD (treeI (.a 0) (.slen 0))
 (lO ff (.ea 0 (.a 0) 1 0) [jD]
 (jU 1 [(.a 1)] [] [(.va 0),(.va 1),(.va 4)]))))))
 (nD (.is 0 2)
 (.mkM (.slen 2) [(jE 0)] 3 1 8
 (nD (.is 0 2)
 (jU 2 [(.slen 2),(.l 0)] [] [(.va 2),(.va 3)]))))))
def a9t:PT:=(.ite a1p (nD a2H (lO ff (.ea 0 a0k 1 0) b6e (nD a2c (nD (treeB e6I) (nD (treeB (.sub e6I a0k)) (nD (treeI (.sub e6I a0k) a0P) (.storeM (.ea 1 (.sub e6I a0k) 1 0) [a1N] (nD a1M (jU 2 c0g [] c2f))))))))) (.ret ff a0Q []))
def a1l:Qq:=⟨[(.sh (.one .val)),(.sh (.one jD))],b9I,[a9w,a7H,a9t],nO,nO⟩
def d4a:List Cfg:=[{todo:=[(.code (tfR 5 24)),(.inLoop (tfR 5 24)),(.inBlock 0),(.code [tt,tt,tt])],sl:=[(.va 0),(jA 0),.undef,.undef,(.junk 0),(.va 1)]++udR 4++jkR 1 11++udR 35,H:=[],ni:=1,nb:=0,nv:=2,nj:=12},
 {todo:=[(.code (tfR 8 248)),(.inLoop (tfR 8 248)),(.inBlock 2),(.code (tfR 6 63))],sl:=[(.va 0),(jA 0),.undef,.undef,(.junk 0),(.va 1),(.va 2),.undef,.undef,.undef]++jkR 1 26++udR 20,H:=[],ni:=1,nb:=0,nv:=3,nj:=27},
 {todo:=[(.code (tfR 11 2036)),(.inLoop (tfR 11 2036)),(.inBlock 4),(.code (tfR 8 255))],sl:=[(.junk 0),(.junk 1),.undef,.undef,(.junk 2),(.junk 3),(.va 0),(.va 1)]++jkR 4 31++[(.va 0),(jA 0),(jA 1)]++jkR 35 13++[.undef],H:=[],ni:=2,nb:=0,nv:=2,nj:=48}]
def d6X:=okg 141 a1l d4a func141 call141 tt ff [(tfR 5 24),(tfR 8 248),(tfR 11 2036)] (live:=tt)
def f7R:PT:=(cA 7 [a0E,a1i] [] a1A (.ite a3E d5M (nD b2N (.ite (.lt (.l 200) a7t) d5M (cA 9 e7m [] d1D (cA 10 e7m [] d6n (.ite (.not d5X) e7W (jU 0 [a0q,a0d,a0k,a0f,a0g,a0t,a0u,a0l,a0o,a0r,a0v,a0z,a0D,a0y,a0B] [a5W] [a1i,a1S,a1G,a1j,a0Q,a1f,a1d,a2J,a3U,a7o,a7s,d1q,a7N,b0c,e2E]))))))))
def f7T:PT:=(nD a2c (.ite e0Z (nD b6b (lO ff e7S e6Y (cA 12 e8B [] e5L (nD b6b (lO ff e7S e6Y (cA 13 [(.agg e8z),(.agg [(jA 25),(jA 26),(jA 27),(jA 28),(jA 29),(jA 30),(jA 31),(jA 32),(jA 33)])] [] [(.agg b9Y),b5T,a7e] (nD a1R (jU 0 [f0x,a0k,a0f,a0g,a0p,(.a 34),(.a 35),(.a 36),(.a 37),(.a 38),(.a 39),(.a 40),(.a 41),(.a 42),(.a 43)] [(.a 2)] [a1j,a0Q,a1f,a1d,a1i,a1S,a1G,a4L,(.va 16),(.va 17),(.va 18),(.va 19),(.va 20),(.va 21),(.va 22)])))))))) (cA 22 [a1f] [] a3x (nD (.is 4 15) (.ite (.nil 15) rF (cA 11 [a4L,(.agg e8z)] [] a1A (.ite d1n rF (jU 1 [a0q,a0k,a0f,a0g,a0p,a0t,a0u,a0l,a0o,a0r,a0v,a0z,a0D,a0y,a0B] a6Z [a0Q,a1f,a4L,a1d,a1i,a1S,a1G,a2J,a3U,a7o,a7s,d1q,a7N,b0c,e2E]))))))))
def f7S:PT:=(nD a2c (.ite e0Z (nD b6b (lO ff e7S e6Y (cA 12 e8B [] e5L (nD a1R (jU 1 [f0x,a0k,a0f,a0g,a0p,a0t,a0u,a0l,a0o,a0r,a0v,a0z,a0D,a0y,a0B] a6Z [a1j,a0Q,a1f,a1d,a1i,a1S,a1G,a2J,a3U,a7o,a7s,d1q,a7N,b0c,e2E]))))) (cA 11 [a0Q,(.agg e8z)] [] a1A (.ite a5W e7W rF))))
def f7Q:Qq:=⟨[(.sh (.agg [.val,.val,.val,.val])),(.sh (.agg [jD,jD,jD,jD])),(.sh (.one .val)),(.sh (.one .val))],f7R,[f7T,f7S],nO,nO⟩
def f8k:List Cfg:=[{todo:=[(.code (tfR 9 500)),(.inLoop (tfR 9 500)),(.inBlock 0),(.code (tfR 6 63))],sl:=[(.junk 0),(.junk 1),(.va 0),(.va 1),(.junk 2),(.junk 3),.undef,.undef,(.junk 4),(.va 2),(.junk 5),(.ptr 2 0),(.junk 6),(jA 0),.undef,.undef]++jkR 7 8++[.undef]++jkR 15 14++[.undef]++jkR 29 22++udR 28,H:=[(.cells [a1d,a1i,a1S,a1G] 27 ff),(.cells e0S 29 ff),(.cells e8z 42 ff)],ni:=15,nb:=1,nv:=15,nj:=51},
 {todo:=[(.code (tfR 12 4084)),(.inLoop (tfR 12 4084)),(.inBlock 2),(.code (tfR 9 511))],sl:=[(.junk 0),(.junk 1),(.junk 2),(.va 0),(.junk 3),(.junk 4),.undef,.undef,(.junk 5),(.va 1),(.junk 6),(.ptr 2 0),(.junk 7),(.junk 8),(.va 2),(jA 0)]++jkR 9 8++[.undef]++jkR 17 14++[.undef]++jkR 31 44++udR 6,H:=[(.cells [a1d,a1i,a1S,a1G] 27 ff),(.cells e0S 29 ff),(.cells e8z 42 ff)],ni:=15,nb:=1,nv:=15,nj:=75}]
def f8m:=okg 6 f7Q f8k func6 call6 tt ff [(tfR 9 500),(tfR 12 4084)]
def b3u:PT:=(nD e0l (.ite b4c e7Z (nD e1G (lO ff a3b a2W e5N))))
def b3D:Qq:=⟨[(.sh (.one .val))],b3u,[],nO,nO⟩
def d0Q:=okg 14 b3D [] func14 call14 tt ff
def f8b:PT:=(cA 52 e7r [] a3x (lO ff d6x a5K (cA 52 [(.va 23)] [] a3x (.storeM c2t e1A (.storeM (.pa 9 16) d6z d1z)))))
def f8d:PT:=(lO ff d6x a5K (cA 52 e7r [] a3x (cA 52 d6z [] a3x (.storeM c2t e1A d6q))))
def f8h:PT:=(cA 51 e0N [] a3x (lO ff e1c a5K (.both f8b f8d)))
def f8j:PT:=(cA 52 e1A [] a3x (lO ff d6x a5K (cA 52 [(.va 23)] [] a3x (.storeM c2t e7r (.storeM (.pa 9 16) d6z d1z)))))
def f8g:PT:=(lO ff d6x a5K (cA 52 e1A [] a3x (cA 52 d6z [] a3x (.storeM c2t e7r d6q))))
def f8f:PT:=(cA 51 e0N [] a3x (.both f8j f8g))
def f8i:PT:=(lO ff d6x a5K (cA 51 e0N [] a3x (cA 52 e1A [] a3x (cA 52 e7r [] a3x (.storeM c2t d6z d6q)))))
def f8c:PT:=(lO ff e1c a5K (.both f8f f8i))
def f8e:PT:=(cA 51 e0N [] a3x (lO ff e1c a5K (cA 52 d6z [] a3x (cA 52 e1A [] a3x (.storeM c2t e7r d6q)))))
def f8a:PT:=(lO ff e1c a5K (cA 51 e0N [] a3x (cA 52 e7r [] a3x (cA 52 e1A [] a3x (.storeM c2t d6z d6q)))))
def f7Y:PT:=(lO ff d6x a5K (.both f8e f8a))
def f7Z:PT:=(.both f8c f7Y)
def f7U:PT:=(nD e0l (.ite b4c (.ret tt .nilP []) (nD e1G (lO ff d6p b9Y (.newM b2t 79 (.storeM (.pa 9 0) a9Z (nD e1G (lO ff d6p e1v (cA 30 [(.agg [a7s,d1q,a7N,b0c])] [] e7N (cA 20 a0J [] a3x (.storeM (.pa 9 0) [e2E,a4L,(.va 16),(.va 17)] (.storeM (.pa 9 8) [(.va 18)] (nD e1G (nD e1G (nD e1G (lO ff e1o a5K (.both f8h f7Z)))))))))))))))))
def f7X:Qq:=⟨[(.sh (.one .val))],f7U,[],nO,nO⟩
def f8p:=okg 22 f7X [] func22 call22 tt tt [] [3]
def c4c:PT:=(cA 67 a0J [] a3x (cA 68 [a0Q] [] a3x (cA 69 [a1f] [] a3x (cA 70 [a1d] [] a3x (.ret ff (.agg [a1i,a1S,a1G,a2J]) [])))))
def c4t:Qq:=⟨[(.sh (.agg [.val,.val,.val,.val]))],c4c,[],nO,nO⟩
def e2d:=okg 30 c4t [] func30 call30 ff ff
def a2a:PT:=(.ite a3E e7K (.ite (.lt a0v a0q) e7e (nD d6G (.ite (.le b0f a0v) e7e (nD (treeI a0v b0f) (lO ff (.ea 7 a0v 1 0) c0h (.ite a5W e7K (cA 21 [a0E,a2r,(.agg e0j)] [] a0W (.ite d0F (cA 71 [a0E,a2r,e8A] [] a0W (.ite (.eq a0T a0q) (cA 35 [e2u,a2r] [] a3x (cA 72 [a0E,a1E,a2r,a3U,e8A] [] a0W (.ite (.not (.eq a0X a0q)) (.ret ff (.tup [e2u,e5K]) []) e6o))) (.ite b0g e6v e2p))) (.ite d0F (cA 35 [e2u,a2r] [] a3x (cA 72 [a0E,a1E,a2r,a3U,e8A] [] a0W (.ite b0g e6v e6o))) (.ite (.not d0F) (.ret ff (.tup [e2u,c0z]) []) e2p)))))))))))
def a9z:Qq:=⟨[(.sh (.agg [.val,.val,.val,.val,jD,jD,jD,jD,.val,jD,jD,jD,jD,jD,jD,.val,.val,.val,.bool])),(.sh (.one jD)),(.sh (.agg [jD,jD,jD,jD,jD,jD]))],a2a,[],nO,nO⟩
def c4i:=okg 38 a9z [] func38 call38 tt ff [] [] [] [] [99999] (live:=tt)
def b0H:PT:=e0H
def b7v:PT:=(cA 51 a0J [] a3x (.both b0H b0H))
def b0J:PT:=e0H
def b8i:PT:=(cA 51 a0J [] a3x (.both b0J b0J))
def a7X:PT:=(cA 51 a0J [] a3x e0H)
def b8s:PT:=(.both b8i a7X)
def b7q:PT:=(.both a7X a7X)
def b7S:PT:=(.both b8s b7q)
def a9T:PT:=(.both b7v b7S)
def b3l:Qq:=⟨[(.sh (.agg [jD,jD,jD,jD,jD,jD,.val,.val,.val]))],a9T,[],nO,nO⟩
def d1i:=okg 46 b3l [] func46 call46 tt tt
def c0E:PT:=(cA 28 [a0E] [] a0W (.ite d6s e5Z (cA 79 [a0E,a1L,e6k] [] a0W (.ret ff a2s []))))
def c0U:Qq:=⟨[(.sh (.agg [.val,.val,.val,.val])),(.sh (.one jD)),(.sh (.agg [jD,jD,jD,jD,jD,jD]))],c0E,[],nO,nO⟩
def d7Q:=okg 54 c0U [] func54 call54 ff ff
def a9f:PT:=(nD a2c (.mkM a8b [a1h,a1h,a1h,a1h,a1h,a1h,.nilS,.nilS,.nilS] 65 9 120 (.copyM 1 0 9 a1w)))
def a9k:Qq:=⟨[(.sh (.one .val))],a9f,[],nO,nO⟩
def c3P:=okg 62 a9k [] func62 call62 tt tt
def a2y:PT:=d0g
def a9r:Qq:=⟨[(.sh (.one .val))],a2y,[],nO,nO⟩
def b5e:List Cfg:=[]
def b3n:PT:=b1c
def a4t:PT:=(nD a2c (.ite e0Z (nD b6b (lO ff (.ea 0 a0d 4 0) a5K (nD (.is 3 2) (nD (.is 3 1) (.ite (.seq 2 1) (.ret ff (.tup [a1L,b1e]) []) a8k))))) e7u))
def a4N:Qq:=⟨[(.sh (.one .val)),(.sh (.one .val))],b3n,[a4t],nO,nO⟩
def c7L:List Cfg:=[{todo:=[(.code (tfR 5 20)),(.inLoop (tfR 5 20)),(.inBlock 0),(.code [tt,tt])],sl:=[(.va 0),(.va 1),.undef,.undef,(.junk 0),(.junk 1),(jA 0)]++jkR 2 13++[.undef],H:=[],ni:=1,nb:=0,nv:=2,nj:=15}]
def d1w:=okg 78 a4N c7L func78 call78 ff ff [(tfR 5 20)]
def b8I:PT:=c5v
def b8B:Qq:=⟨[(.sh (.one .val))],b8I,[],nO,nO⟩
def d4C:=okg 86 b8B [] func86 call86 ff ff
def c4s:PT:=e7I
def b3a:PT:=(.ite a1p (nD a2H (lO ff b2P a2W (nD (treeB (.add a0f a0o)) (nD (treeB (.add a0g a0r)) (nD (treeB (.add a0p a0v)) (nD (treeB (.add a0t a0z)) (nD (treeB (.add a0u a0D)) (nD (treeB (.add a0l a0y)) (nD a1M (jU 0 [a0d,a1X,(.add a0f a0o),(.add a0g a0r),(.add a0p a0v),(.add a0t a0z),(.add a0u a0D),(.add a0l a0y)] [] a0J)))))))))) c2G)
def b0W:Qq:=⟨[(.sh (.one .val))],c4s,[b3a],nO,nO⟩
def d8A:List Cfg:=[{todo:=[(.code (tfR 6 52)),(.inLoop (tfR 6 52)),(.inBlock 0),(.code [tt,tt,tt])],sl:=[(.junk 0),.undef,(.ptr 0 0),(.ptr 1 0),.undef,(.junk 1),(.junk 2),(.va 0),(jA 0),(jA 1)]++jkR 3 16++[.undef],H:=[(.cells a3z 138 ff),(.cells b4j 138 ff)],ni:=8,nb:=0,nv:=1,nj:=19}]
def e0C:=okg 94 b0W d8A func94 call94 tt ff [(tfR 6 52)]
def b1R:PT:=(.ite e5R e2k rF)
def b1G:Qq:=⟨[(.sh (.agg [.val,.val,.val,.val])),(.sh (.one jD))],b1R,[],nO,nO⟩
def c7q:=okg 102 b1G [] func102 call102 ff ff
def b2f:PT:=(cA 127 a0J [] a2n (jU 0 [a0u,a0q,a0d,a0k,a0f,a0g,a0p,a0t,a0l,a0o,a0r,a0v,a0z,a0D,a0y,a0B,a0C,a0N,b9f,a0T,a0l,a0o,a0r,a0v,a0z,a0D] [] a0J))
def a5V:PT:=(.ite d5A (jU 1 [a0d,a0k,a0f,a0g,a0p,a0t,a0u,a0l,a0o,a0r,a0v,a0z,a0D,a0y,a0B,a0C,a0N,b9f,a0T,a0X,a1m,a1b,a1B,a1F,a2A,a4D] [] a0J) (.ret ff (.agg e2v) []))
def b0Q:PT:=(nD b6b (.ite a3w (lO ff e6p b6e (.ite (.lt a4D a8h) (nD b6b (lO ff e6p b6e (nD (treeB (.sub a4c a4D)) (nD (treeB (.sub a0X (.sub a4c a4D))) (.ite (.lt (.sub a0X (.sub a4c a4D)) a0l) (nD (treeB (jP 25)) (jU 1 [a0d,d0U,a0f,a0g,a0p,a0t,a0u,a0l,a0o,a0r,a0v,a0z,a0D,a0y,a0B,a0C,a0N,b9f,a0T,a0X,a1m,a1b,a1B,a1F,a2A,(jP 25)] [] a0J)) (jU 0 e6w [] a0J)))))) (jU 0 e6w [] a0J))) (.ite a2C (lO ff e7Y b6e (.ite (.lt a2A a8h) (nD b6b (lO ff e7Y b6e (nD (treeB (.sub a4c a2A)) (nD (treeB (.sub a0T (.sub a4c a2A))) (.ite (.lt (.sub a0T (.sub a4c a2A)) a0u) (nD (treeB (jP 24)) (jU 1 [a0d,a4P,a0f,a0g,a0p,a0t,a0u,a0l,a0o,a0r,a0v,a0z,a0D,a0y,a0B,a0C,a0N,b9f,a0T,a0X,a1m,a1b,a1B,a1F,(jP 24),a4D] [] a0J)) (jU 0 c3s [] a0J)))))) (jU 0 c3s [] a0J))) (.ite a2I (lO ff e8b b6e (.ite (.lt a1F a8h) (nD b6b (lO ff e8b b6e (nD (treeB (.sub a4c a1F)) (nD (treeB (.sub b9f (.sub a4c a1F))) (.ite (.lt (.sub b9f (.sub a4c a1F)) a0t) (nD (treeB (jP 23)) (jU 1 [a0d,d0i,a0f,a0g,a0p,a0t,a0u,a0l,a0o,a0r,a0v,a0z,a0D,a0y,a0B,a0C,a0N,b9f,a0T,a0X,a1m,a1b,a1B,(jP 23),a2A,a4D] [] a0J)) (jU 0 e0D [] a0J)))))) (jU 0 e0D [] a0J))) (.ite a2Z (lO ff e8q b6e (.ite (.lt a1B a8h) (nD b6b (lO ff e8q b6e (nD (treeB (.sub a4c a1B)) (nD (treeB (.sub a0N (.sub a4c a1B))) (.ite (.lt (.sub a0N (.sub a4c a1B)) a0p) (nD (treeB (jP 22)) (jU 1 [a0d,d0c,a0f,a0g,a0p,a0t,a0u,a0l,a0o,a0r,a0v,a0z,a0D,a0y,a0B,a0C,a0N,b9f,a0T,a0X,a1m,a1b,(jP 22),a1F,a2A,a4D] [] a0J)) (jU 0 b2L [] a0J)))))) (jU 0 b2L [] a0J))) (.ite a1n (lO ff e7V b6e (.ite (.lt a1b a8h) (nD b6b (lO ff e7V b6e (nD (treeB (.sub a4c a1b)) (nD (treeB (.sub a0C (.sub a4c a1b))) (.ite (.lt (.sub a0C (.sub a4c a1b)) a0g) (nD (treeB (jP 21)) (jU 1 [a0d,d1O,a0f,a0g,a0p,a0t,a0u,a0l,a0o,a0r,a0v,a0z,a0D,a0y,a0B,a0C,a0N,b9f,a0T,a0X,a1m,(jP 21),a1B,a1F,a2A,a4D] [] a0J)) (jU 0 a7G [] a0J)))))) (jU 0 a7G [] a0J))) (.ite c5z (lO ff e8h b6e (.ite (.lt a1m a8h) (nD b6b (lO ff e8h b6e (nD (treeB (.sub a4c a1m)) (nD (treeB (.sub a0B (.sub a4c a1m))) (.ite (.lt (.sub a0B (.sub a4c a1m)) a0f) (nD (treeB (jP 20)) (jU 1 [a0d,a0q,a0f,a0g,a0p,a0t,a0u,a0l,a0o,a0r,a0v,a0z,a0D,a0y,a0B,a0C,a0N,b9f,a0T,a0X,(jP 20),a1b,a1B,a1F,a2A,a4D] [] a0J)) (jU 0 e2y [] a0J)))))) (jU 0 e2y [] a0J))) .stuck)))))))
def a1z:Qq:=⟨[(.sh (.agg [jD,jD,jD,jD,jD,jD])),(.sh (.one .val)),(.sh (.one jD)),(.sh (.agg [jD,jD,jD,jD,jD,jD]))],b2f,[a5V,b0Q],nO,nO⟩
def c4Z:List Cfg:=[{todo:=[(.code (tfR 7 116)),(.inLoop (tfR 7 116)),(.inBlock 0),(.code [tt,tt,tt,tt])],sl:=[(.junk 0),(.va 0),(jA 0),(.junk 1),(.ptr 0 0),.undef,.undef,(.junk 2),(.ptr 2 0),(.ptr 3 0),(.ptr 4 0),(jA 1)]++jkR 3 42++[.undef],H:=[(.cells b4j 51 ff),(.cells a5t 51 ff),(.cells a3z 51 ff),(.cells e7i 51 ff),(.cells e2v 51 ff)],ni:=26,nb:=0,nv:=1,nj:=45},
 {todo:=[(.code (tfR 12 3728)),(.inLoop (tfR 12 3728)),(.inBlock 2),(.inBlock 1),(.code (tfR 9 467)),(.inLoop (tfR 7 116)),(.inBlock 0),(.code [tt,tt,tt,tt])],sl:=[(.junk 0),(.va 0),(jA 0),(.junk 1),(.ptr 0 0),.undef,.undef,(.junk 2),(.ptr 2 0),(.ptr 3 0),(.ptr 4 0),(jA 1)]++jkR 3 42++[.undef],H:=[(.cells b4j 51 ff),(.cells a5t 51 ff),(.cells a3z 51 ff),(.cells e7i 51 ff),(.cells e2v 51 ff)],ni:=26,nb:=0,nv:=1,nj:=45}]
def c8d:=okg 110 a1z c4Z func110 call110 tt ff [(tfR 7 116),(tfR 12 3728)]
def c1v:PT:=(.newM [a1L] 3 (cA 131 [(.agg [a1j,a1P,a1N,a1E,a2Y,a2u,a2h]),(.fn 132 0 [(.pa 1 0)])] [] a0W e5Z))
def c0V:Qq:=⟨[(.sh (.one .val)),(.sh (.one jD)),(.sh (.agg [jD,jD,jD,jD,jD,jD]))],c1v,[],nO,nO⟩
def d8z:=okg 118 c0V [] func118 call118 tt ff [] [4] [(12,[2])]
def c4x:PT:=(cA 124 [(.int .i32 a0d)] [] a1A (.ite a3E a4C (cA 137 [(.int .i32 a0d)] [] a1A (.ite a5W a4C (.ret ff (.bool (.eq a0d (.l 95))) [])))))
def c4u:Qq:=⟨[(.sh (.one (.int .i32)))],c4x,[],nO,nO⟩
def e1M:=okg 126 c4u [] func126 call126 ff ff
def b4w:PT:=e6J
def b3H:PT:=(.ite a1p (nD a2H (lO ff e7U c3X (cA 139 [d5L] [] a1A (.ite a4h rF e1R)))) a4C)
def a7Y:Qq:=⟨[(.sh (.one .val))],b4w,[b3H],nO,nO⟩
def c8L:List Cfg:=[{todo:=[(.code (tfR 5 20)),(.inLoop (tfR 5 20)),(.inBlock 0),(.code [tt,tt])],sl:=[(.junk 0),.undef,(.junk 1),.undef,(.junk 2),(.va 0),(jA 0),(jA 1)]++jkR 3 7,H:=[],ni:=2,nb:=0,nv:=1,nj:=10}]
def d2l:=okg 134 a7Y c8L func134 call134 ff ff [(tfR 5 20)]
def a4B:PT:=(nD a2c (.ite (.lt (.l 10) a8b) a4C (nD a3Z (.ite (.lt (.l 10) a0P) a4C (nD a0R (.ite (.lt (.l 20) a2Q) a4C (nD b0j (.ite (.lt (.l 10) b1d) a4C (nD e1r (.ret ff (.bool (.lt (.l 200) a3W)) []))))))))))
def b2J:Qq:=⟨[(.sh (.agg [.val,.val,.val,.val])),(.sh (.one .val))],a4B,[],nO,nO⟩
def c8H:=okg 7 b2J [] func7 call7 ff ff
def b4N:PT:=(nD e0l (.ite b4c a8l (nD e1G (lO ff a1k a5K (nD a3Z (.ret ff (.int .i64 a0P) []))))))
def b4M:Qq:=⟨[(.sh (.one .val))],b4N,[],nO,nO⟩
def d3s:=okg 15 b4M [] func15 call15 tt ff
def d2V:PT:=(.app nO (.lit [[(.str [97]),(jE 1),(jE 0),(jE 1),(jE 0)]]) 5 (.app nO (.lit [[(.str [120]),(jE 0),(jE 0),(jE 5)],[(.str [121]),(jE 0),(jE 0),(jE 5)]]) 4 (.ret ff (.agg [a1j,a0Q,.nilS,.nilS]) [])))
def c1o:Qq:=⟨[],d2V,[],nO,nO⟩
def d1T:=okg 23 c1o [] func23 call23 ff ff
def c9y:PT:=(.mkM b1d a3H 4 1 1 (.storeM e1o [a1f] d6v))
def c9M:PT:=(.storeM e1o [a1f] (.mkM b1d a3H 4 1 1 d6v))
def c9p:PT:=(.mkM a0P a3z 51 6 48 (lO ff d6x a5K (nD b0j (nD e1G (.both c9y c9M)))))
def c9U:PT:=(.mkM a2Q a3H 4 1 1 (.storeM e1o [a1d] d6v))
def c9m:PT:=(.storeM e1o [a1d] (.mkM a2Q a3H 4 1 1 d6v))
def c9f:PT:=(.mkM a0P a3z 51 6 48 (nD e1G (.both c9U c9m)))
def c9L:PT:=(.mkM a2Q a3H 4 1 1 (.mkM a0P a3z 51 6 48 d6E))
def c9n:PT:=(lO ff d6x a5K (nD a0R (.both c9f c9L)))
def c9b:PT:=(lO ff d6x a5K (nD a3Z (.both c9p c9n)))
def c7K:PT:=(.mkM a0P a3H 4 1 1 (.storeM e1o [a1d] d6v))
def c8e:PT:=(.storeM e1o [a1d] (.mkM a0P a3H 4 1 1 d6v))
def c7w:PT:=(.mkM a2Q a3z 51 6 48 (nD e1G (.both c7K c8e)))
def c7W:PT:=(.mkM a0P a3H 4 1 1 (.mkM a2Q a3z 51 6 48 d6E))
def c7x:PT:=(lO ff d6x a5K (nD a0R (.both c7w c7W)))
def c7s:PT:=(.mkM a0P a3H 4 1 1 (lO ff d6x a5K (nD b0j (.mkM b1d a3z 51 6 48 (nD e1G (.storeM e1o e7A (nD e1G (.storeM e1c [a1f] b6w))))))))
def c7G:PT:=(lO ff d6x a5K (nD a3Z (.both c7x c7s)))
def b4K:PT:=(nD e1G (nD e1G (.both c9b c7G)))
def c1N:Qq:=⟨[(.sh (.one .val))],b4K,[],nO,nO⟩
def c8Z:List Cfg:=[]
def b1v:PT:=(.app (sm 9) (.va 4) 9 (.app nO (.lit [[(jA 4),(jA 5),(jA 6),(jA 7),(jA 8),(jA 9),(.va 5),(.va 8),(.va 6)]]) 9 (.app (sm 10) (.va 11) 9 e8e)))
def b1l:PT:=(.app nO (.lit [[(jA 4),(jA 5),(jA 6),(jA 7),(jA 8),(jA 9),(.va 5),(.va 8),(.va 6)]]) 9 (.app (sm 9) (.va 4) 9 (.app (sm 11) (.va 10) 9 e8e)))
def a7r:PT:=(.app nO (.lit []) 9 (.both b1v b1l))
def a7d:PT:=(.app nO (.lit [[(jA 4),(jA 5),(jA 6),(jA 7),(jA 8),(jA 9),(.va 5),(.va 8),(.va 6)]]) 9 (.app nO (.lit []) 9 (.app (sm 10) (.va 4) 9 (.app (sm 11) (.va 9) 9 e8e))))
def a3o:PT:=(.ite a3E e7K (cA 49 a0J [] a2n (nD b2N (.ite e8v (.app nO (.lit []) 6 (nD e1r (.ite (.lt a0q a3W) (nD e1r (nD (treeB (.sub a3W d1O)) (nD (treeI (.sub a3W d1O) a3W) (lO ff (.ea 4 (.sub a3W d1O) 9 7) a5K (nD (.is 0 9) (.ite (.eq (.slen 9) a0q) (.app nO (.lit []) 6 e8c) (.appM .nilS (.va 9) 6 51 e8c))))))) (.both a7r a7d)))) (.appM .nilS (.va 5) 6 51 (nD e1r (.ite (.lt a0q a3W) (nD e1r (nD (treeB (.sub a3W d1O)) (nD (treeI (.sub a3W d1O) a3W) (lO ff (.ea 4 (.sub a3W d1O) 9 7) a5K (nD (.is 0 9) (.ite (.eq (.slen 9) a0q) (.app nO (.lit []) 6 e8c) (.appM .nilS (.va 9) 6 51 e8c))))))) (.both a7r a7d))))))))
def b0D:PT:=(.app (sm 10) (.va 5) 9 (.app nO (.lit [[(jA 5),(jA 6),(jA 7),(jA 8),(jA 9),(jA 10),(.va 6),(.va 9),(.va 7)]]) 9 (.app (sm 11) (.va 12) 9 b0h)))
def b0G:PT:=(.app nO (.lit [[(jA 5),(jA 6),(jA 7),(jA 8),(jA 9),(jA 10),(.va 6),(.va 9),(.va 7)]]) 9 (.app (sm 10) (.va 5) 9 (.app (sm 12) (.va 11) 9 b0h)))
def b0C:PT:=(.app nO (.lit []) 9 (.both b0D b0G))
def b0E:PT:=(.app nO (.lit [[(jA 5),(jA 6),(jA 7),(jA 8),(jA 9),(jA 10),(.va 6),(.va 9),(.va 7)]]) 9 (.app nO (.lit []) 9 (.app (sm 11) (.va 5) 9 (.app (sm 12) (.va 10) 9 b0h))))
def a3F:PT:=(nD a2c (.ite e0Z (nD (treeI a0d (.slen 8)) (lO ff (.ea 8 a0d 1 0) c0h (.ite a5W (nD b6b (.storeM e8h a3z c2E)) c2E))) (cA 73 [a1E,(.agg e0j),a1j,a1G] [] d1D (.both b0C b0E))))
def a8i:PT:=(jU 2 [a0q,a0q,a0d,a0k,a0f,a0g,a0p,a0t,a0u,a0l,a0o,a0r,a0v,a0z,a0D,a0y,a0B,a0C] a6Z a7D)
def a4z:PT:=(nD a2c (.ite d1f (nD a2H (lO ff b2P b6e (nD (treeB (.add a0d a0T)) (nD a1M (jU 2 [(.add a0d a0T),a1X,a0f,a0g,a0p,a0t,a0u,a0l,a0o,a0r,a0v,a0z,a0D,a0y,a0B,a0C,a0N,b9f] a6Z a7D))))) (.ite (.lt a0D a0d) (nD (treeB (.sub a0d a0D)) (jU 3 [a0q,a0q,a0f,a0g,a0p,a0t,a0u,a0l,a0o,a0r,a0v,a0z,a0D,a0y,a0B,a0C,a0N,b9f,(.sub a0d a0D)] [(.t tt),a3E] a7D)) (jU 3 [a0q,a0q,a0f,a0g,a0p,a0t,a0u,a0l,a0o,a0r,a0v,a0z,a0D,a0y,a0B,a0C,a0N,b9f,a0q] [(.t ff),a3E] a7D))))
def a4v:PT:=(nD a2c (.ite d1f (nD a2H (lO ff (.ea 0 a0k 6 1) b6e (nD (treeB (.add a0d a0X)) (nD a1M (jU 3 [(.add a0d a0X),a1X,a0f,a0g,a0p,a0t,a0u,a0l,a0o,a0r,a0v,a0z,a0D,a0y,a0B,a0C,a0N,b9f,a0T] e1C a7D))))) (.ite (.lt a0y a0d) (nD (treeB (.sub a0d a0y)) (jU 4 [a0q,a0q,a0f,a0g,a0p,a0t,a0u,a0l,a0o,a0r,a0v,a0z,a0D,a0y,a0B,a0C,a0N,b9f,a0T,(.sub a0d a0y)] c5X a7D)) (jU 4 [a0q,a0q,a0f,a0g,a0p,a0t,a0u,a0l,a0o,a0r,a0v,a0z,a0D,a0y,a0B,a0C,a0N,b9f,a0T,a0q] e1C a7D))))
def a4x:PT:=(nD a2c (.ite d1f (nD a2H (lO ff (.ea 0 a0k 6 2) b6e (nD (treeB (.add a0d a1m)) (nD a1M (jU 4 [(.add a0d a1m),a1X,a0f,a0g,a0p,a0t,a0u,a0l,a0o,a0r,a0v,a0z,a0D,a0y,a0B,a0C,a0N,b9f,a0T,a0X] e1C a7D))))) (.ite (.lt a0B a0d) (nD (treeB (.sub a0d a0B)) (jU 5 [a0q,a0q,a0f,a0g,a0p,a0t,a0u,a0l,a0o,a0r,a0v,a0z,a0D,a0y,a0B,a0C,a0N,b9f,a0T,a0X,(.sub a0d a0B)] c5X a7D)) (jU 5 [a0q,a0q,a0f,a0g,a0p,a0t,a0u,a0l,a0o,a0r,a0v,a0z,a0D,a0y,a0B,a0C,a0N,b9f,a0T,a0X,a0q] e1C a7D))))
def a4s:PT:=(nD a2c (.ite d1f (nD a2H (lO ff (.ea 0 a0k 6 3) b6e (nD (treeB (.add a0d a1b)) (nD a1M (jU 5 [(.add a0d a1b),a1X,a0f,a0g,a0p,a0t,a0u,a0l,a0o,a0r,a0v,a0z,a0D,a0y,a0B,a0C,a0N,b9f,a0T,a0X,a1m] e1C a7D))))) (.ite (.lt a0C a0d) (nD (treeB (.sub a0d a0C)) (jU 6 [a0q,a0q,a0f,a0g,a0p,a0t,a0u,a0l,a0o,a0r,a0v,a0z,a0D,a0y,a0B,a0C,a0N,b9f,a0T,a0X,a1m,(.sub a0d a0C)] c5X a7D)) (jU 6 [a0q,a0q,a0f,a0g,a0p,a0t,a0u,a0l,a0o,a0r,a0v,a0z,a0D,a0y,a0B,a0C,a0N,b9f,a0T,a0X,a1m,a0q] e1C a7D))))
def a4A:PT:=(nD a2c (.ite d1f (nD a2H (lO ff (.ea 0 a0k 6 4) b6e (nD (treeB (.add a0d a1B)) (nD a1M (jU 6 [(.add a0d a1B),a1X,a0f,a0g,a0p,a0t,a0u,a0l,a0o,a0r,a0v,a0z,a0D,a0y,a0B,a0C,a0N,b9f,a0T,a0X,a1m,a1b] e1C a7D))))) (.ite (.lt a0N a0d) (nD (treeB (.sub a0d a0N)) (jU 7 [a0q,a0q,a0f,a0g,a0p,a0t,a0u,a0l,a0o,a0r,a0v,a0z,a0D,a0y,a0B,a0C,a0N,b9f,a0T,a0X,a1m,a1b,(.sub a0d a0N)] c5X a7D)) (jU 7 [a0q,a0q,a0f,a0g,a0p,a0t,a0u,a0l,a0o,a0r,a0v,a0z,a0D,a0y,a0B,a0C,a0N,b9f,a0T,a0X,a1m,a1b,a0q] e1C a7D))))
def a2K:PT:=(nD a2c (.ite d1f (nD a2H (lO ff (.ea 0 a0k 6 5) b6e (nD (treeB (.add a0d a1F)) (nD a1M (jU 7 [(.add a0d a1F),a1X,a0f,a0g,a0p,a0t,a0u,a0l,a0o,a0r,a0v,a0z,a0D,a0y,a0B,a0C,a0N,b9f,a0T,a0X,a1m,a1b,a1B] e1C a7D))))) (.ite (.lt b9f a0d) (nD (treeB (.sub a0d b9f)) (cA 74 [(.agg [a1N,a1E,a2Y,a2u]),c0j,(.agg [d0T,e5K,d5V,e1z,b6m,(.int .i64 (.sub a0d b9f))])] [] c5Z c5S)) (cA 74 [(.agg [a1N,a1E,a2Y,a2u]),c0j,(.agg [d0T,e5K,d5V,e1z,b6m,a1h])] [] c5Z (.ite a4h e8r c5S)))))
def a1c:Qq:=⟨[(.sh (.agg [.val,.val,.val,.val,jD,jD,jD,jD,.val,jD,jD,jD,jD,jD,jD,.val,.val,.val,.bool]))],a3o,[a3F,a8i,a4z,a4v,a4x,a4s,a4A,a2K],nO,nO⟩
def c0Y:List Cfg:=[{todo:=[(.code (tfR 12 3924)),(.inLoop (tfR 12 3924)),(.inBlock 0),(.code (tfR 9 491)),(.code (tfR 5 31))],sl:=[(.junk 0),(.ptr 0 0),(.ptr 1 0),(.junk 1),(.ptr 2 0),(.junk 2),(.va 0),(jA 0)]++udR 7++[(.junk 3),(.junk 4),.undef]++jkR 5 38++udR 82,H:=[(.cells e4e 42 ff),(.cells b2t 42 ff),(.cells e0j 51 ff)],ni:=17,nb:=1,nv:=9,nj:=43},
 {todo:=[(.code (tfR 7 126)),(.code (tfR 7 127))],sl:=[(.junk 0),(.ptr 0 0),(.ptr 1 0),(.junk 1),(.ptr 2 0),(.va 0),(.junk 2),(.junk 3)]++udR 7++[(.junk 4),(.junk 5),.undef]++jkR 6 64++udR 56,H:=[(.cells a9Z 42 ff),(.cells b2t 42 ff),(.cells [a2r,c3d,a2L,a4J,b1a,a5S] 51 ff)],ni:=16,nb:=1,nv:=9,nj:=70},
 {todo:=[(.code (tfR 20 1045652)),(.inLoop (tfR 20 1045652)),(.inBlock 4),(.code (tfR 17 130707)),(.inBlock 3),(.code (tfR 14 16339)),(.inLoop (tfR 12 4084)),(.inBlock 2),(.code (tfR 9 511))],sl:=[(.junk 0),(.ptr 0 0),(.ptr 1 0),(.junk 1),(.ptr 2 0),(.va 0),(.junk 2),(.junk 3),(.ptr 3 0),(.bool (.t ff)),(jE 0),(jA 0),(jA 1),.undef,.undef,(.junk 4),(.junk 5),.undef]++jkR 6 66++[.undef,.undef]++jkR 72 14++udR 38,H:=[(.cells f8w 42 ff),(.cells b2t 42 ff),(.cells b9S 51 ff),(.cells a3z 51 ff)],ni:=18,nb:=1,nv:=9,nj:=86},
 {todo:=[(.code (tfR 20 1045652)),(.inLoop (tfR 20 1045652)),(.inBlock 4),(.code (tfR 17 130707)),(.inBlock 3),(.code (tfR 14 16339)),(.inLoop (tfR 12 4084)),(.inBlock 2),(.code (tfR 9 511))],sl:=[(.junk 0),(.ptr 0 0),(.ptr 1 0),(.junk 1),(.ptr 2 0),(.va 0),(.junk 2),(.junk 3),(.ptr 3 0),(.bool (.a 0)),(jE 1),(jA 0),(jA 1),.undef,.undef,(.junk 4),(.junk 5),.undef]++jkR 6 94++udR 26,H:=[(.cells f8n 42 ff),(.cells b2t 42 ff),(.cells b9S 51 ff),(.cells [d0T,a1h,a1h,a1h,a1h,a1h] 51 ff)],ni:=19,nb:=2,nv:=9,nj:=100},
 {todo:=[(.code (tfR 20 1045652)),(.inLoop (tfR 20 1045652)),(.inBlock 4),(.code (tfR 17 130707)),(.inBlock 3),(.code (tfR 14 16339)),(.inLoop (tfR 12 4084)),(.inBlock 2),(.code (tfR 9 511))],sl:=[(.junk 0),(.ptr 0 0),(.ptr 1 0),(.junk 1),(.ptr 2 0),(.va 0),(.junk 2),(.junk 3),(.ptr 3 0),(.bool (.a 0)),(jE 2),(jA 0),(jA 1),.undef,.undef,(.junk 4),(.junk 5),.undef]++jkR 6 94++udR 26,H:=[(.cells f8n 42 ff),(.cells b2t 42 ff),(.cells b9S 51 ff),(.cells [d0T,e5K,a1h,a1h,a1h,a1h] 51 ff)],ni:=20,nb:=2,nv:=9,nj:=100},
 {todo:=[(.code (tfR 20 1045652)),(.inLoop (tfR 20 1045652)),(.inBlock 4),(.code (tfR 17 130707)),(.inBlock 3),(.code (tfR 14 16339)),(.inLoop (tfR 12 4084)),(.inBlock 2),(.code (tfR 9 511))],sl:=[(.junk 0),(.ptr 0 0),(.ptr 1 0),(.junk 1),(.ptr 2 0),(.va 0),(.junk 2),(.junk 3),(.ptr 3 0),(.bool (.a 0)),(jE 3),(jA 0),(jA 1),.undef,.undef,(.junk 4),(.junk 5),.undef]++jkR 6 94++udR 26,H:=[(.cells f8n 42 ff),(.cells b2t 42 ff),(.cells b9S 51 ff),(.cells [d0T,e5K,d5V,a1h,a1h,a1h] 51 ff)],ni:=21,nb:=2,nv:=9,nj:=100},
 {todo:=[(.code (tfR 20 1045652)),(.inLoop (tfR 20 1045652)),(.inBlock 4),(.code (tfR 17 130707)),(.inBlock 3),(.code (tfR 14 16339)),(.inLoop (tfR 12 4084)),(.inBlock 2),(.code (tfR 9 511))],sl:=[(.junk 0),(.ptr 0 0),(.ptr 1 0),(.junk 1),(.ptr 2 0),(.va 0),(.junk 2),(.junk 3),(.ptr 3 0),(.bool (.a 0)),(jE 4),(jA 0),(jA 1),.undef,.undef,(.junk 4),(.junk 5),.undef]++jkR 6 94++udR 26,H:=[(.cells f8n 42 ff),(.cells b2t 42 ff),(.cells b9S 51 ff),(.cells [d0T,e5K,d5V,e1z,a1h,a1h] 51 ff)],ni:=22,nb:=2,nv:=9,nj:=100},
 {todo:=[(.code (tfR 20 1045652)),(.inLoop (tfR 20 1045652)),(.inBlock 4),(.code (tfR 17 130707)),(.inBlock 3),(.code (tfR 14 16339)),(.inLoop (tfR 12 4084)),(.inBlock 2),(.code (tfR 9 511))],sl:=[(.junk 0),(.ptr 0 0),(.ptr 1 0),(.junk 1),(.ptr 2 0),(.va 0),(.junk 2),(.junk 3),(.ptr 3 0),(.bool (.a 0)),(jE 5),(jA 0),(jA 1),.undef,.undef,(.junk 4),(.junk 5),.undef]++jkR 6 94++udR 26,H:=[(.cells f8n 42 ff),(.cells b2t 42 ff),(.cells b9S 51 ff),(.cells [d0T,e5K,d5V,e1z,b6m,a1h] 51 ff)],ni:=23,nb:=2,nv:=9,nj:=100}]
def c2m:=okg 39 a1c c0Y func39 call39 tt ff [(tfR 12 3924),(tfR 20 1045652)] [] [] [(tfR 6 63)] [99999,200121] (live:=tt)
def b2Z:PT:=(.ite c5L rF (.ite (.lt a4P a0d) rF (.ite d1H rF (.ite (.lt a4P a0k) rF (.ite c5C rF (.ite a1e rF (.ite c0o rF (.ite b0X rF (.ite d6m rF (.ite (.lt a4P a0p) rF (.ite b6f rF (.ite (.lt a4P a0t) rF a4C))))))))))))
def b2V:Qq:=⟨[(.sh (.agg [jD,jD,jD,jD,jD,jD]))],b2Z,[],nO,nO⟩
def c8M:=okg 47 b2V [] func47 call47 ff ff
def b2S:PT:=(cA 80 [a0E,a1L] [] a1A (.ite a4h e7J (nD a3h (lO ff (.ea 1 a0d 4 2) b6e (.ite (.not c5w) (cA 81 e0r [] a0W (.ite (.lt a0y a0B) (.ret ff (jE 17) []) a8l)) a8l)))))
def b2X:Qq:=⟨[(.sh (.agg [.val,.val,.val,.val])),(.sh (.one jD)),(.sh (.agg [jD,jD,jD,jD,jD,jD,jD,jD,jD,jD,jD,jD]))],b2S,[],nO,nO⟩
def c9j:=okg 55 b2X [] func55 call55 ff ff
def c1s:PT:=(nD a2c (.ite d5B d0p (nD a2c (.ite (.lt d1F a8b) d6w e6J))))
def b0y:PT:=(.ite a1p (nD a2H (lO ff a3T d9m (cA 97 [a0Q] [] a1A (.ite a4h a1U (.cut 0 nO (sm (.a 1)) 5 (cA 98 [a1f,a0Q] [] [a7e,b5T] (.ite a5W d6h (cA 99 [a1N,(jE 1),(jE 4)] [] a1A (.ite (.not (.a 2)) b6o (cA 99 [a1E,a1h,(jE 1000000)] [] a1A (.ite (.not (.a 3)) b6o (cA 99 [a2Y,a1h,(jE 1000)] [] a1A (.ite (.not (.a 4)) b6o (cA 99 [a2u,a1h,(jE 4)] [] a1A (.ite (.not (.a 5)) b6o e1R))))))))))))))) (cA 57 a0J [] a2n (cA 100 [b0a] [] a0W (.ite e1p (.ret ff (jE 12) []) a8l))))
def a8P:Qq:=⟨[(.sh (.one .val))],c1s,[b0y],nO,nO⟩
def d5b:List Cfg:=[{todo:=[(.code (tfR 6 52)),(.inLoop (tfR 6 52)),(.inBlock 1),(.code [tt,tt,tt])],sl:=[(.va 0),.undef]++jkR 0 13++[(.va 0),(jA 0),(jA 1)]++jkR 13 41++udR 4,H:=[],ni:=2,nb:=0,nv:=1,nj:=54}]
def d7M:=okg 63 a8P d5b func63 call63 ff ff [(tfR 6 52)]
def a9q:PT:=(cA 102 [a0E,a1L] [] a1A (.ite a4h e7J (nD a3h (lO tt (.ea 1 a0d 4 2) b6e (.ite (.not c5w) (nD a3h (lO tt (.ea 1 a0d 4 2) b6e (cA 103 e0r [] a0W (.ite (.lt a0B a0C) (.ret ff (jE 17) []) a8l)))) a8l)))))
def a9d:Qq:=⟨[(.sh (.agg [.val,.val,.val,.val])),(.sh (.one jD)),(.sh (.agg [jD,jD,jD,jD,jD,jD,jD,jD,jD,jD,jD,jD]))],a9q,[],nO,nO⟩
def c3I:=okg 71 a9d [] func71 call71 ff ff
def c1m:PT:=(.ite c5L e7J (nD a3Z (.ite (.le a0P a0d) e7J (cA 85 [e6k] [] a0W (.ite d6s e5Z (cA 115 [a0E] [] [(.agg a2W),(.agg a2W)] (cA 57 a0J [] a2n (cA 116 [e6k,(.agg e2v)] [] a1A (.ite a4h e6h (cA 117 [a0E,(.agg e7i),a1L,e6k] [] a2n (cA 116 [(.agg [(jA 26),(jA 27),(jA 28),(jA 29),(jA 30),(jA 31)]),b9U] [] a1A (.ite d1n e6h (nD a0R (jU 0 [a0d,a2Q,a0q,a0k,a0f,a0g,a0p,a0t,a0u] [] [a1f,a1j,a0Q,a1d]))))))))))))))
def b0n:PT:=(.ite c0i (nD e5Y (lO ff (.ea 0 a0f 3 0) d6o (.ite (.eq a0r c3N) e7d (.ite (.eq a0r a0d) e7d (nD a0K (jU 0 e8w [] e1Z)))))) a8l)
def a8O:Qq:=⟨[(.sh (.agg [.val,.val,.val,.val])),(.sh (.one jD)),(.sh (.agg [jD,jD,jD,jD,jD,jD]))],c1m,[b0n],nO,nO⟩
def d4F:List Cfg:=[{todo:=[(.code (tfR 9 500)),(.inLoop (tfR 9 500)),(.inBlock 0),(.code (tfR 6 63))],sl:=[(.junk 0),(jA 0),(.junk 1),(.ptr 0 0),.undef,(.ptr 1 0)]++jkR 2 4++[.undef]++jkR 6 14++[.undef]++jkR 20 22++[(.va 0),(jA 1),(jA 2)]++jkR 42 24,H:=[(.cells [a0Q,a1f,a1j,a1d] 27 ff),(.cells d1U 51 ff)],ni:=9,nb:=0,nv:=4,nj:=66}]
def d7U:=okg 79 a8O d4F func79 call79 ff ff [(tfR 9 500)]
def b4H:PT:=(.ret ff (.bool (.and b2s (.and b2Y (.and e1p (.and e6A (.and c0a e2q)))))) [])
def b4R:Qq:=⟨[(.sh (.agg [jD,jD,jD,jD,jD,jD,jD,jD,jD,jD,jD,jD]))],b4H,[],nO,nO⟩
def d2P:=okg 87 b4R [] func87 call87 ff ff
def b4t:PT:=(.newM [a1L,a1P,a1N,a1E] 29 (.ret ff (.fn 122 0 [d6p]) []))
def b4u:Qq:=⟨[(.sh (.agg [jD,jD,jD,jD]))],b4t,[],nO,nO⟩
def d3f:=okg 95 b4u [] func95 call95 tt ff [] [1]
def b3m:PT:=e7D
def b3J:Qq:=⟨[(.sh (.agg [jD,jD,jD,jD,jD,jD])),(.sh (.agg [jD,jD,jD,jD,jD,jD]))],b3m,[],nO,nO⟩
def d0E:=okg 103 b3J [] func103 call103 ff ff
def b0V:PT:=(.ite c5L rF (.ite (.lt b6p a0d) rF (.ite d1H rF (.ite (.lt b6p a0k) rF (.ite c5C rF (.ite (.lt b6p a0f) rF (.ite c0o rF (.ite a8T rF (.ite d6m rF (.ite (.lt b6p a0p) rF (.ite b6f rF (.ite (.lt b6p a0t) rF a4C))))))))))))
def b0P:Qq:=⟨[(.sh (.agg [jD,jD,jD,jD,jD,jD]))],b0V,[],nO,nO⟩
def c6O:=okg 111 b0P [] func111 call111 ff ff
def a9L:PT:=(cA 133 [a1j,(.agg b6q)] [] a0W (.ret ff a4J []))
def a9E:Qq:=⟨[(.sh (.agg [.val,.val,.val,.val,jD,.val])),(.sh (.agg [jD,jD,jD,jD,jD,jD,jD,jD,jD,jD,jD,jD]))],a9L,[],nO,nO⟩
def c4h:=okg 119 a9E [] func119 call119 ff ff
def b4T:PT:=(jU 0 e0A [] a0J)
def a7k:PT:=(nD a2c (.ite e0Z (nD b6b (lO ff e8h b6e (nD (treeB (.add a0k a0l)) (nD b6b (lO ff e7V b6e (nD (treeB (.add a0f a0o)) (nD b6b (lO ff e8q b6e (nD (treeB (.add a0g a0r)) (nD b6b (lO ff e8b b6e (nD (treeB (.add a0p a0v)) (nD b6b (lO ff e7Y b6e (nD (treeB (.add a0t a0z)) (nD b6b (lO ff e6p b6e (nD (treeB (.add a0u a0D)) (nD a1R (jU 0 [f0x,(.add a0k a0l),(.add a0f a0o),(.add a0g a0r),(.add a0p a0v),(.add a0t a0z),(.add a0u a0D)] [] a0J)))))))))))))))))))) (.ret ff e6k [])))
def a6g:Qq:=⟨[(.sh (.one .val))],b4T,[a7k],nO,nO⟩
def c8Q:List Cfg:=[{todo:=[(.code (tfR 6 52)),(.inLoop (tfR 6 52)),(.inBlock 0),(.code [tt,tt,tt])],sl:=[(.va 0),.undef,(.ptr 0 0),(.ptr 1 0),(jA 0)]++jkR 0 23++[.undef],H:=[(.cells a3z 51 ff),(.cells b3U 51 ff)],ni:=7,nb:=0,nv:=1,nj:=23}]
def d3v:=okg 127 a6g c8Q func127 call127 tt ff [(tfR 6 52)]
def b5g:PT:=(nD a2c (.mkM a8b [a1h] 2 1 8 (nD a2c (.mkM a8b [a1h] 3 1 8 (nD a0R (jU 0 [a2Q,a0q] [] c2x))))))
def a8d:PT:=(.ite a1p (nD c7m (.storeM (.ea 2 a0k 1 0) [(.int .i64 c3N)] (nD a1M (jU 0 c0g [] c2x)))) (nD a2c (jU 1 [c3N,a8b,a0q] [] c2x)))
def a5j:PT:=(.ite c0i (nD a2c (jU 2 [c3N,a0k,a0f,a8b,a0q] [] c2x)) b6u)
def a5c:PT:=(.ite (.lt a0p a0g) (nD a2c (jU 3 [a0d,a0p,a0k,a0f,a0g,a8b,a0q] [] c2x)) (.ite c5L b6u (nD a0K (jU 1 e7O [] c2x))))
def b1T:PT:=(lO ff (.ea 1 a0k 1 0) b6e (cA 140 d5D [] a0W (nD (treeB e2g) (nD e0t (lO ff e6n b6e (.ite (.lt e2g (.a 33)) (nD e0t (.storeM e6n [(.int .i64 e2g)] e0v)) e8d))))))
def b2h:PT:=(cA 140 d5D [] a0W (lO ff (.ea 1 a0k 1 0) b6e (nD (treeB e2b) (nD e0t (lO ff e6n b6e (.ite (.lt e2b (.a 33)) (nD e0t (.storeM e6n [(.int .i64 e2b)] e0v)) e8d))))))
def a3L:PT:=(.ite (.lt a0u a0t) (nD c7d (nD a2H (nD (treeI a0u a8b) (lO ff e7U c3X (lO ff (.ea 0 a0u 12 0) c3X (.both b1T b2h)))))) (nD a1M (jU 2 [a0d,a0f,a0g,a0p,a1X] [] c2x)))
def a1a:Qq:=⟨[(.sh (.one .val))],b5g,[a8d,a5j,a5c,a3L],nO,nO⟩
def d0o:List Cfg:=[{todo:=[(.code (tfR 8 180)),(.inLoop (tfR 8 180)),(.inBlock 0),(.code (tfR 5 23)),(.inScope [ff,tt])],sl:=[(.va 0),.undef,(.junk 0),(.junk 1),(.va 1),(.va 2),(.junk 2)]++udR 4++jkR 3 7++[(jA 0),(jA 1)]++jkR 10 6++udR 54,H:=[],ni:=2,nb:=0,nv:=3,nj:=16},
 {todo:=[(.code (tfR 11 1524)),(.inLoop (tfR 11 1524)),(.inBlock 2),(.code (tfR 8 191)),(.inScope [ff,tt])],sl:=[(.va 0),.undef,(.junk 0),(.junk 1),(.va 1),(.va 2),(.junk 2),(jA 0)]++jkR 3 19++[(jA 1),(jA 2)]++jkR 22 45++udR 6,H:=[],ni:=3,nb:=0,nv:=3,nj:=67},
 {todo:=[(.code (tfR 20 780692)),(.inLoop (tfR 20 780692)),(.inBlock 4),(.code (tfR 17 97587)),(.inBlock 3),(.code (tfR 14 12199)),(.inLoop (tfR 11 1524)),(.inBlock 2),(.code (tfR 8 191)),(.inScope [ff,tt])],sl:=[(.va 0),.undef,(.junk 0),(.junk 1),(.va 1),(.va 2),(.junk 2),(jA 0)]++jkR 3 19++[(jA 1),(jA 2),(.junk 22),(.junk 23),(jA 3),(jA 4)]++jkR 24 41++udR 6,H:=[],ni:=5,nb:=0,nv:=3,nj:=65},
 {todo:=[(.code (tfR 28 199857356)),(.inLoop (tfR 28 199857356)),(.inBlock 6),(.inBlock 5),(.code (tfR 23 6245543)),(.inLoop (tfR 20 780692)),(.inBlock 4),(.code (tfR 17 97587)),(.inBlock 3),(.code (tfR 14 12199)),(.inLoop (tfR 11 1524)),(.inBlock 2),(.code (tfR 8 191)),(.inScope [ff,tt])],sl:=[(.va 0),.undef,(.junk 0),(.junk 1),(.va 1),(.va 2),(.junk 2),(jA 0),(jA 1)]++jkR 3 18++[(jA 2),(jA 3),(.junk 21),(.junk 22),(jA 4),(jA 1),(.junk 23),(.junk 24),(.junk 25),(jA 5),(jA 6)]++jkR 26 36++udR 6,H:=[],ni:=7,nb:=0,nv:=3,nj:=62}]
def d3L:=okg 135 a1a d0o func135 call135 tt tt [(tfR 8 180),(tfR 11 1524),(tfR 20 780692),(tfR 28 199857356)]
def d1N:PT:=(cA 23 [] [] e7N (cA 9 [a0E,(.agg [(jE 1),a1h,(jE 1),(jE 2)])] [] d1D (.ite d0t rF (nD (.is 4 4) (.ite (.nil 4) rF (cA 24 [a1i,a1h,c3b] [] a0W (cA 24 c2k [] a0W (cA 25 e7A [] e5L (cA 24 [a1i,a1h,c3b] [] a0W (cA 24 c2k [] a0W (cA 25 e7A [] e5L (cA 24 c2k [] a0W (cA 25 e7A [] e5L (cA 26 [a1i,(jE 1)] [] a3x (.ite c5z (.ite c5R (.ite a4h (.ite (.eq a0g a0q) (.ite d1n (.ite b2s (.ite (.a 2) (.ite e1p (cA 16 e7A [] a1A (.ite (.a 3) (cA 15 e7A [] a0W (.ite (.eq a0r d0i) (cA 14 e7A [] a2n (.ite (.and (.eq a0v d0c) (.and e2q (.and c0x (.and c5w (.and c2S (.eq a0C a0q)))))) (nD b2N (.ite (.eq a7t d0i) (nD (.lt d0c a7t) (lO tt (.ea 5 d0c 12 6) a2W (.ite (.and (.eq a0N d1O) (.and d0F (.and (.eq a0T a0q) (.and (.eq a0X a0q) (.and (.eq a1m a0q) (.eq a1b a0q)))))) (cA 24 [a1i,a1h,c3b] [] a0W (.ite (.eq a1B (.l 10)) (cA 27 [a1i,(jE 1)] [] a0W (.ite (.eq a1F a0q) (cA 14 e7A [] a2n (.ite (.and (.eq a2A d1O) (.and (.eq a4D a0q) (.and (.eq a8h a0q) (.and (.eq a4c a0q) (.and (.eq (.a 28) a0q) d1J))))) (cA 16 e7A [] a1A (.ret ff (.bool (.not (.a 4))) [])) rF)) rF)) rF)) rF))) rF)) rF)) rF)) rF)) rF) rF) rF) rF) rF) rF) rF) rF)))))))))))))))
def c0d:Qq:=⟨[],d1N,[],nO,nO⟩
def c8U:=okg 8 c0d [] func8 call8 ff ff
def b5V:PT:=(nD e0l (.ite (.not b4c) (nD e1G (lO ff a7E c0h (.ret ff b3K []))) rF))
def b6a:Qq:=⟨[(.sh (.one .val))],b5V,[],nO,nO⟩
def d4k:=okg 16 b6a [] func16 call16 tt ff
def a7x:PT:=(lO ff (.pa 0 7) b6e (cA 26 c1x [] a3x c2K))
def a7m:PT:=(cA 26 c1x [] a3x (lO ff (.pa 0 7) b6e c2K))
def a7B:PT:=(lO ff d6p e1v (.both a7x a7m))
def a7i:PT:=(lO ff d6p e1v (cA 26 c1x [] a3x c2K))
def a7h:PT:=(cA 26 c1x [] a3x (lO ff d6p e1v e6V))
def a7g:PT:=(lO ff (.pa 0 7) b6e (.both a7i a7h))
def a7j:PT:=(cA 26 c1x [] a3x (lO ff d6p e1v (lO ff (.pa 0 7) b6e e6V)))
def a7l:PT:=(.both a7g a7j)
def a5O:PT:=(lO ff a3b a2W (nD e1G (lO ff d6p e1v (cA 54 [(.agg [a1f,a1d,a1i,a1S]),a1L,e6k] [] a0W (.ite (.not c5w) (.ret tt a4J []) (nD e1G (lO ff d6p e1v (cA 55 [(.agg [a1G,a2J,a3U,a7o]),a1L,c3e] [] a0W (.ite e2o (.ret tt b1a []) (nD e1G (nD e1G (.both a7B a7l))))))))))))
def a3R:PT:=(nD e0l (.ite b4c a9Y (nD e1G (lO ff a7E c0h (.ite a3E c5y (cA 53 c1x [] a1A (.ite d1n a9Y (nD e1G (lO ff d6x a5K (nD a3h (lO ff (.ea 1 a0d 1 0) c0h (.ite (.a 2) c5y (nD e1G (.both a5O a5O))))))))))))))
def b2p:Qq:=⟨[(.sh (.one .val)),(.sh (.one jD)),(.sh (.agg [jD,jD,jD,jD,jD,jD]))],a3R,[],nO,nO⟩
def d5c:=okg 24 b2p [] func24 call24 tt tt
def b2G:PT:=(nD a2c (.ite e0W (nD e0W (lO ff (.ea 0 a0q 5 2) b6e (nD a2c (.ite e7h (nD e7h (lO ff (.ea 0 d1O 5 2) b6e (nD a2c (.ite e7t (nD e7t (lO ff (.ea 0 d0c 5 2) b6e (nD a2c (.ite e7w (nD e7w (lO ff (.ea 0 d0i 5 2) b6e (nD a2c (.ite e6g (nD e6g (lO ff (.ea 0 a4P 5 2) b6e (nD a2c (.ite e6S (nD e6S (lO ff (.ea 0 d0U 5 2) b6e c3i)) c2o)))) c2X)))) c3h)))) c1U)))) c3l)))) e7Z))
def b2O:Qq:=⟨[(.sh (.one .val))],b2G,[],nO,nO⟩
def c9z:=okg 32 b2O [] func32 call32 ff ff
def a4Q:PT:=(.ite a3E e7K (cA 75 [(.agg [a1j,a0Q,a1f,a1d,a1L,a1P,a1N,a1E,a1i,a2Y,a2u,a2h,a2k,a2s,a2f,a1S,a1G,a2J,b1e])] [] b6s (.ret ff (.tup [(.agg [a3U,a7o,a7s,d1q,a2r,c3d,a2L,a4J,a7N,b1a,a5S,e1x,c0z,d0T,e5K,b0c,e2E,a4L,a8U]),a1h]) [])))
def a9p:Qq:=⟨[(.sh (.agg [.val,.val,.val,.val,jD,jD,jD,jD,.val,jD,jD,jD,jD,jD,jD,.val,.val,.val,.bool]))],a4Q,[],nO,nO⟩
def c3L:=okg 40 a9p [] func40 call40 ff ff
def b3r:PT:=(cA 18 [a0E] [] a0W (.ite d0t (.ret ff (.tup [e0f,e0f]) []) (jU 0 e0A [] e1Z)))
def a6C:PT:=(nD a2c (.ite e0Z (nD b6b (lO ff (.ea 0 a0d 5 1) b6e (.ite d6F (jU 0 [d1F,a0k,a0f,a0g,a0p,a0t,a0l] [] e1Z) (.ite e2t (jU 0 [d0U,a0k,a0f,a0g,a0p,a0l,a0u] [] e1Z) (.ite e2D (jU 0 [a4P,a0k,a0f,a0g,a0l,a0t,a0u] [] e1Z) (.ite e0U (jU 0 [d0i,a0k,a0f,a0l,a0p,a0t,a0u] [] e1Z) (.ite e2c (jU 0 [d0c,a0k,a0l,a0g,a0p,a0t,a0u] [] e1Z) (.ite e1f (jU 0 [d1O,a0l,a0f,a0g,a0p,a0t,a0u] [] e1Z) .stuck)))))))) (jU 1 [a0q,a0k,a0f,a0g,a0p,a0t,a0u,a0q,a0q,a0q,a0q,a0q,a0q] [] e1Z)))
def a6H:PT:=(nD b0j (.ite (.lt a0d b1d) (nD (treeI a0d b1d) (lO ff (.ea 3 a0d 3 0) d6o (.ite c3m (nD (treeB c2R) (.ite c3m (nD a1R (jU 1 [f0x,a0k,a0f,a0g,a0p,a0t,c2R,a0l,a0o,a0r,a0v,a0z,a0B] [] e1Z)) (.ite c2Y (nD a1R (jU 1 [f0x,a0k,a0f,a0g,a0p,a0t,c2R,a0l,a0o,a0r,a0v,a0B,a0D] [] e1Z)) (.ite c2g (nD a1R (jU 1 [f0x,a0k,a0f,a0g,a0p,a0t,c2R,a0l,a0o,a0r,a0B,a0z,a0D] [] e1Z)) (.ite c2T (nD a1R (jU 1 [f0x,a0k,a0f,a0g,a0p,a0t,c2R,a0l,a0o,a0B,a0v,a0z,a0D] [] e1Z)) (.ite d6f (nD a1R (jU 1 [f0x,a0k,a0f,a0g,a0p,a0t,c2R,a0l,a0B,a0r,a0v,a0z,a0D] [] e1Z)) (.ite c5w (nD a1R (jU 1 [f0x,a0k,a0f,a0g,a0p,a0t,c2R,a0B,a0o,a0r,a0v,a0z,a0D] [] e1Z)) .stuck))))))) (.ite c2Y (nD (treeB d1M) (.ite c3m (nD a1R (jU 1 [f0x,a0k,a0f,a0g,a0p,d1M,a0u,a0l,a0o,a0r,a0v,a0z,a0B] [] e1Z)) (.ite c2Y (nD a1R (jU 1 [f0x,a0k,a0f,a0g,a0p,d1M,a0u,a0l,a0o,a0r,a0v,a0B,a0D] [] e1Z)) (.ite c2g (nD a1R (jU 1 [f0x,a0k,a0f,a0g,a0p,d1M,a0u,a0l,a0o,a0r,a0B,a0z,a0D] [] e1Z)) (.ite c2T (nD a1R (jU 1 [f0x,a0k,a0f,a0g,a0p,d1M,a0u,a0l,a0o,a0B,a0v,a0z,a0D] [] e1Z)) (.ite d6f (nD a1R (jU 1 [f0x,a0k,a0f,a0g,a0p,d1M,a0u,a0l,a0B,a0r,a0v,a0z,a0D] [] e1Z)) (.ite c5w (nD a1R (jU 1 [f0x,a0k,a0f,a0g,a0p,d1M,a0u,a0B,a0o,a0r,a0v,a0z,a0D] [] e1Z)) .stuck))))))) (.ite c2g (nD (treeB d5O) (.ite c3m (nD a1R (jU 1 [f0x,a0k,a0f,a0g,d5O,a0t,a0u,a0l,a0o,a0r,a0v,a0z,a0B] [] e1Z)) (.ite c2Y (nD a1R (jU 1 [f0x,a0k,a0f,a0g,d5O,a0t,a0u,a0l,a0o,a0r,a0v,a0B,a0D] [] e1Z)) (.ite c2g (nD a1R (jU 1 [f0x,a0k,a0f,a0g,d5O,a0t,a0u,a0l,a0o,a0r,a0B,a0z,a0D] [] e1Z)) (.ite c2T (nD a1R (jU 1 [f0x,a0k,a0f,a0g,d5O,a0t,a0u,a0l,a0o,a0B,a0v,a0z,a0D] [] e1Z)) (.ite d6f (nD a1R (jU 1 [f0x,a0k,a0f,a0g,d5O,a0t,a0u,a0l,a0B,a0r,a0v,a0z,a0D] [] e1Z)) (.ite c5w (nD a1R (jU 1 [f0x,a0k,a0f,a0g,d5O,a0t,a0u,a0B,a0o,a0r,a0v,a0z,a0D] [] e1Z)) .stuck))))))) (.ite c2T (nD (treeB e1P) (.ite c3m (nD a1R (jU 1 [f0x,a0k,a0f,e1P,a0p,a0t,a0u,a0l,a0o,a0r,a0v,a0z,a0B] [] e1Z)) (.ite c2Y (nD a1R (jU 1 [f0x,a0k,a0f,e1P,a0p,a0t,a0u,a0l,a0o,a0r,a0v,a0B,a0D] [] e1Z)) (.ite c2g (nD a1R (jU 1 [f0x,a0k,a0f,e1P,a0p,a0t,a0u,a0l,a0o,a0r,a0B,a0z,a0D] [] e1Z)) (.ite c2T (nD a1R (jU 1 [f0x,a0k,a0f,e1P,a0p,a0t,a0u,a0l,a0o,a0B,a0v,a0z,a0D] [] e1Z)) (.ite d6f (nD a1R (jU 1 [f0x,a0k,a0f,e1P,a0p,a0t,a0u,a0l,a0B,a0r,a0v,a0z,a0D] [] e1Z)) (.ite c5w (nD a1R (jU 1 [f0x,a0k,a0f,e1P,a0p,a0t,a0u,a0B,a0o,a0r,a0v,a0z,a0D] [] e1Z)) .stuck))))))) (.ite d6f (nD (treeB e2x) (.ite c3m (nD a1R (jU 1 [f0x,a0k,e2x,a0g,a0p,a0t,a0u,a0l,a0o,a0r,a0v,a0z,a0B] [] e1Z)) (.ite c2Y (nD a1R (jU 1 [f0x,a0k,e2x,a0g,a0p,a0t,a0u,a0l,a0o,a0r,a0v,a0B,a0D] [] e1Z)) (.ite c2g (nD a1R (jU 1 [f0x,a0k,e2x,a0g,a0p,a0t,a0u,a0l,a0o,a0r,a0B,a0z,a0D] [] e1Z)) (.ite c2T (nD a1R (jU 1 [f0x,a0k,e2x,a0g,a0p,a0t,a0u,a0l,a0o,a0B,a0v,a0z,a0D] [] e1Z)) (.ite d6f (nD a1R (jU 1 [f0x,a0k,e2x,a0g,a0p,a0t,a0u,a0l,a0B,a0r,a0v,a0z,a0D] [] e1Z)) (.ite c5w (nD a1R (jU 1 [f0x,a0k,e2x,a0g,a0p,a0t,a0u,a0B,a0o,a0r,a0v,a0z,a0D] [] e1Z)) .stuck))))))) (.ite c5w (nD (treeB e1V) (.ite c3m (nD a1R (jU 1 [f0x,e1V,a0f,a0g,a0p,a0t,a0u,a0l,a0o,a0r,a0v,a0z,a0B] [] e1Z)) (.ite c2Y (nD a1R (jU 1 [f0x,e1V,a0f,a0g,a0p,a0t,a0u,a0l,a0o,a0r,a0v,a0B,a0D] [] e1Z)) (.ite c2g (nD a1R (jU 1 [f0x,e1V,a0f,a0g,a0p,a0t,a0u,a0l,a0o,a0r,a0B,a0z,a0D] [] e1Z)) (.ite c2T (nD a1R (jU 1 [f0x,e1V,a0f,a0g,a0p,a0t,a0u,a0l,a0o,a0B,a0v,a0z,a0D] [] e1Z)) (.ite d6f (nD a1R (jU 1 [f0x,e1V,a0f,a0g,a0p,a0t,a0u,a0l,a0B,a0r,a0v,a0z,a0D] [] e1Z)) (.ite c5w (nD a1R (jU 1 [f0x,e1V,a0f,a0g,a0p,a0t,a0u,a0B,a0o,a0r,a0v,a0z,a0D] [] e1Z)) .stuck))))))) .stuck)))))))) (.ret ff (.tup e0r) [])))
def a1r:Qq:=⟨[(.sh (.agg [.val,.val,.val,.val]))],b3r,[a6C,a6H],nO,nO⟩
def c7p:List Cfg:=[{todo:=[(.code (tfR 7 116)),(.inLoop (tfR 7 116)),(.inBlock 0),(.code [tt,tt,tt,tt])],sl:=[(.junk 0),(.ptr 0 0),(.ptr 1 0),(.ptr 2 0),(.ptr 3 0),(.ptr 4 0),(jA 0),.undef,.undef,(.junk 1),(.junk 2),(.junk 3),.undef,.undef]++jkR 4 15++udR 29,H:=[(.cells e1Z 27 ff),(.cells a3z 51 ff),(.cells a3z 51 ff),(.cells b3U 51 ff),(.cells a3z 51 ff)],ni:=7,nb:=0,nv:=4,nj:=19},
 {todo:=[(.code (tfR 8 244)),(.inLoop (tfR 8 244)),(.inBlock 2),(.code (tfR 5 31))],sl:=[(.junk 0),(.ptr 0 0),(.ptr 1 0),(.ptr 2 0),(.ptr 3 0),(.ptr 4 0),(.junk 1),(jA 0)]++jkR 2 4++[.undef,.undef]++jkR 6 42++[.undef,.undef],H:=[(.cells e1Z 27 ff),(.cells a3z 51 ff),(.cells a3z 51 ff),(.cells b3U 51 ff),(.cells b6q 51 ff)],ni:=13,nb:=0,nv:=4,nj:=48}]
def d0r:=okg 48 a1r c7p func48 call48 ff ff [(tfR 7 116),(tfR 8 244)]
def b8E:PT:=(.ite e2c (cA 80 [a0E,a1P] [] a1A (.ite a4h e7J (cA 85 [b9U] [] a0W (.ite e2o e6a (cA 86 e7A [] a1A (.ite a5W e1i (cA 82 e7c [] a1A e6q))))))) (.ite e0U (cA 80 [a0E,a1P] [] a1A (.ite a4h e7J (cA 85 [b9U] [] a0W (.ite e2o e6a (cA 86 e7A [] a1A (.ite a5W e1i (cA 83 e7c [] a1A e6q))))))) (.ite e2D (cA 80 [a0E,a1P] [] a1A (.ite a4h e7J (cA 85 [b9U] [] a0W (.ite e2o e6a (cA 86 e7A [] a1A (.ite a5W e1i (cA 84 e7c [] a1A e6q))))))) b6o)))
def b8C:Qq:=⟨[(.sh (.agg [.val,.val,.val,.val])),(.sh (.one jD)),(.sh (.one jD)),(.sh (.one .val)),(.sh (.agg [jD,jD,jD,jD,jD,jD,jD,jD,jD,jD,jD,jD]))],b8E,[],nO,nO⟩
def d5q:=okg 56 b8C [] func56 call56 ff ff [] [] [(43,[4])]
def c2U:PT:=(nD a2c (.ite d5B d0p (nD a2c (.ite c0c d6w e6J))))
def b1j:PT:=(.ite a1p (nD a2H (lO ff (.ea 0 a0k 4 0) [.val,jD,jD,jD] (cA 97 [a0Q] [] a1A (.ite a4h a1U (.cut 0 nO (sm (.a 1)) 4 (cA 101 [a1f,a0Q] [] [a7e,b5T] (.ite a5W d6h (.ite c5C b6o (.ite a1e b6o (.ite c0o b6o (.ite a8T b6o (.ite d6m b6o (.ite (.lt (.l 24000) a0p) b6o e1R))))))))))))) a8l)
def b0b:Qq:=⟨[(.sh (.one .val))],c2U,[b1j],nO,nO⟩
def d7f:List Cfg:=[{todo:=[(.code (tfR 6 52)),(.inLoop (tfR 6 52)),(.inBlock 1),(.code [tt,tt,tt])],sl:=[(.va 0),.undef]++jkR 0 13++[(.va 0),(jA 0),(jA 1)]++jkR 13 47,H:=[],ni:=2,nb:=0,nv:=1,nj:=60}]
def d8R:=okg 64 b0b d7f func64 call64 ff ff [(tfR 6 52)]
def a9O:PT:=e7b
def a9Q:PT:=e6s
def a9B:PT:=(.app nO (.lit []) 12 (.both a9O a9Q))
def a9R:PT:=e7M
def a9V:PT:=e7b
def a9y:PT:=e6s
def a9M:PT:=(.app nO (.lit []) 12 (.both a9V a9y))
def a9H:PT:=e7M
def a8z:PT:=(.ite e0k b6o (.ite (.lt d0i a0d) b6o (cA 102 [a0E,a1P] [] a1A (.ite a4h e7J (cA 104 [b9U] [] a0W (.ite e2o e6a (cA 105 e7A [] a1A (.ite a5W (.ite (.and e1p (.and e6A (.and c0a (.and e2q (.and c0x c5w))))) a8l e5O) (.ite (.not e0U) (cA 106 [a0E,b9U] [] a0W (cA 107 [a0E,a1P,a1i] [] a0W (.ite (.le a0C a0N) a8l (.ite (.not e2c) (.both a9B a9R) e5O)))) (.ite (.not e2c) (.both a9M a9H) e5O))))))))))
def b1A:Qq:=⟨[(.sh (.agg [.val,.val,.val,.val])),(.sh (.one jD)),(.sh (.one jD)),(.sh (.one .val)),(.sh (.agg [jD,jD,jD,jD,jD,jD,jD,jD,jD,jD,jD,jD]))],a8z,[],nO,nO⟩
def c7S:=okg 72 b1A [] func72 call72 ff ff
def c1X:PT:=(.ite e5R e2k rF)
def c2s:Qq:=⟨[(.sh (.agg [.val,.val,.val,.val])),(.sh (.one jD))],c1X,[],nO,nO⟩
def d9q:=okg 80 c2s [] func80 call80 ff ff
def b8J:PT:=(.ite e0k b6o (.ite (.lt d0i a0d) b6o (nD a2c (nD a3Z (.ite e8s d6w (nD a2c (.ite c0c d6w (cA 85 [e6k] [] a0W (.ite d6s b6o e5H)))))))))
def a5v:PT:=(.ite c0i (nD (treeI a0f a2Q) (lO ff (.ea 2 a0f 6 0) a2W (cA 85 [b6g] [] a0W (.ite (.not e6A) b6o (nD a0K (jU 0 e7O [] c2x)))))) (nD a1R (.ite (.lt f0x d0c) (.ite (.eq f0x d1O) (nD a3Z (jU 0 [d1O,a0P,a0q] [] [a1j,a0Q,a0Q])) (.ite (.eq f0x a0q) e5H .stuck)) a8l)))
def a3k:Qq:=⟨[(.sh (.one jD)),(.sh (.agg [jD,jD,jD,jD,jD,jD])),(.sh (.one .val)),(.sh (.one .val))],b8J,[a5v],nO,nO⟩
def d2S:List Cfg:=[{todo:=[(.code (tfR 14 13516)),(.inLoop (tfR 14 13516)),(.inBlock 3),(.inBlock 2),(.code (tfR 9 423)),(.inLoop (tfR 6 52)),(.inBlock 1),(.code [tt,tt,tt])],sl:=jkR 0 4++[.undef,(.junk 4),.undef,.undef,(.junk 5),.undef,(.junk 6),.undef]++jkR 7 25++[(.agg [(.va 0),(.va 1)]),(jA 0),(.junk 32),(.junk 33),(.va 2),(jA 1),(jA 2)]++jkR 34 8,H:=[],ni:=3,nb:=0,nv:=3,nj:=42}]
def d5j:=okg 88 a3k d2S func88 call88 tt ff [(tfR 14 13516)]
def b5y:PT:=(cA 123 [a1L] [] a0W (.ite (.not b2s) rF (cA 123 [a1P] [] a0W (.ite d6s rF (cA 123 [a1N] [] a0W (.ite (.not e1p) rF (cA 123 [a1E] [] a0W (.ite (.not e6A) rF (cA 123 [a2Y] [] a0W (.ite (.not c0a) rF (cA 123 [a2u] [] a0W (.ite (.not e2q) rF a4C))))))))))))
def b5B:Qq:=⟨[(.sh (.agg [jD,jD,jD,jD,jD,jD]))],b5y,[],nO,nO⟩
def d3V:=okg 96 b5B [] func96 call96 ff ff
def b2D:PT:=d0A
def b2I:Qq:=⟨[(.sh (.agg [jD,jD,jD,jD,jD,jD]))],b2D,[],nO,nO⟩
def c8N:=okg 104 b2I [] func104 call104 ff ff
def b1D:PT:=(nD (treeB (.mul a0p a0k)) (nD (treeB e7p) (.ite (.lt a0q (.tmod (.mul a0p a0k) (.l 100))) (nD (treeB (.add e7p d1O)) (nD (treeB (.add a0p a0d)) (nD (treeB e1d) (.ret ff (.int .i64 e1d) [])))) (nD (treeB (.add a0p a0d)) (nD (treeB (.add (.add a0p a0d) e7p)) (.ret ff (.int .i64 (.add (.add a0p a0d) e7p)) []))))))
def b2j:Qq:=⟨[(.sh (.agg [jD,jD,jD,jD])),(.sh (.one jD))],b1D,[],nO,nO⟩
def c7O:=okg 112 b2j [] func112 call112 ff ff
def b1x:PT:=(cA 80 [a0E,a1L] [] a1A (.ite a4h a8l (nD a3h (lO tt (.ea 1 a0d 4 3) b6e (nD e1r (jU 0 [a0d,a0k,a3W,a0q] [] e2h))))))
def a5U:PT:=(.ite (.lt a0g a0f) (nD (treeI a0g a3W) (lO ff (.ea 4 a0g 12 0) c3X (cA 119 [a6i,(.agg [a2Y,a2u,a2h,a2k,a2s,a2f,a2r,c3d,a2L,a4J,b1a,a5S])] [] a0W (nD d6B (jU 0 [a0d,(.mn a0k a0N),a0f,(jP 3)] [] e2h))))) c1Y)
def a4U:Qq:=⟨[(.sh (.agg [.val,.val,.val,.val])),(.sh (.one jD)),(.sh (.one .val))],b1x,[a5U],nO,nO⟩
def c4X:List Cfg:=[{todo:=[(.code (tfR 7 116)),(.inLoop (tfR 7 116)),(.inBlock 0),(.code [tt,tt,tt,tt])],sl:=jkR 0 4++[.undef,.undef,(.junk 4),(.fn 119 1 [(.agg [(.va 0),(.va 1),(.va 2),(.va 3),(jA 0),(.va 4)])]),(jA 1),.undef]++jkR 5 16++[(.va 4),(jA 2),(jA 3)]++jkR 21 9++[.undef],H:=[],ni:=4,nb:=0,nv:=5,nj:=30}]
def c7H:=okg 120 a4U c4X func120 call120 ff ff [(tfR 7 116)] [] [(33,[3])]
def b2M:PT:=e8p
def b2K:Qq:=⟨[(.sh (.one (.int .u8)))],b2M,[],nO,nO⟩
def c9B:=okg 128 b2K [] func128 call128 ff ff
def c9d:PT:=(.ite e5R (.ret ff (.bool (.le a0d b6p)) []) rF)
def c9c:Qq:=⟨[(.sh (.one jD))],c9d,[],nO,nO⟩
def e4T:=okg 136 c9c [] func136 call136 ff ff
def d1B:PT:=(cA 19 a0J [] a2n (.mkM a0P a3H 4 1 1 e5S))
def d1j:PT:=(.mkM a0P a3H 4 1 1 (cA 19 a0J [] a2n e5S))
def d1r:PT:=(cA 30 [a0E] [] e7N (.both d1B d1j))
def d1P:PT:=(.mkM a0P a3H 4 1 1 (cA 30 [a0E] [] e7N (cA 19 a0J [] a2n (.newM [a1S,a1G,a2J,a3U,a1L,a1P,a1N,a1E,.nilS,a2h,a2k,a2s,a2f,a2r,c3d,.nilS,.nilS,a1i,b2w] 79 e7v))))
def b1W:PT:=(cA 28 [a0E] [] a0W (.ite (.not d5X) (.ret tt (.tup [.nilP,a2Y]) []) (cA 29 c2h [] a0W (.ite (.not (.eq a0t a0q)) (.ret tt (.tup [.nilP,a2u]) []) (nD a3Z (.both d1r d1P))))))
def c8Y:Qq:=⟨[(.sh (.agg [.val,.val,.val,.val])),(.sh (.agg [jD,jD,jD,jD]))],b1W,[],nO,nO⟩
def e4F:=okg 9 c8Y [] func9 call9 tt tt [] [30]
def b3b:PT:=d6u
def b2F:Qq:=⟨[(.sh (.agg [jD,jD,jD,jD]))],b3b,[],nO,nO⟩
def c9T:=okg 17 b2F [] func17 call17 ff ff
def b1S:PT:=(cA 59 a0J [] a3x d5W)
def b1Y:PT:=(lO ff e1o a5K (cA 59 a0J [] a3x e6b))
def b1H:PT:=(lO ff (.pa 0 6) b6e (.both b1S b1Y))
def b1V:PT:=(cA 59 a0J [] a3x (lO ff (.pa 0 6) b6e d5W))
def b1K:PT:=(lO ff (.pa 0 6) b6e (cA 59 a0J [] a3x e6b))
def b1B:PT:=(cA 59 a0J [] a3x (lO ff (.pa 0 6) b6e e6b))
def b1O:PT:=(lO ff e1o a5K (.both b1K b1B))
def b1I:PT:=(.both b1V b1O)
def b1P:PT:=(lO ff a1k a5K (.app nO (.lit [[(jA 6),(jA 7),(jA 8),(jA 9),(jA 10),(jA 11),(.va 5),(.va 3),(.va 6)]]) 9 (.appM a2J (.va 8) 9 65 e1t)))
def b0S:PT:=(.app nO (.lit [[(jA 6),(jA 7),(jA 8),(jA 9),(jA 10),(jA 11),(.va 5),(.va 3),(.va 6)]]) 9 (lO ff a1k a5K (.appM a3U (.va 7) 9 65 e1t)))
def a5i:PT:=(nD e0l (.ite b4c (.ret tt (.tup [b2w,(jE 6)]) []) (nD e1G (lO ff a7E c0h (.ite a3E (.ret tt (.tup [b2w,(jE 10)]) []) (nD e1G (lO ff d6p a5K (cA 57 [a0Q] [] a2n (nD e1G (lO ff e1o a5K (cA 51 [a1f] [] a3x (nD e1G (lO ff a1k a5K (nD e1r (.ite (.lt a0q a3W) (nD e1G (nD e1G (.both b1H b1I))) (nD e1G (nD e1G (nD e1G (nD e1G (lO ff a3b a2W (lO ff e1o a5K (lO ff e1c a5K (.both b1P b0S)))))))))))))))))))))))
def b8j:PT:=(lO ff a1k a5K (.app nO (.lit [[(jA 7),(jA 8),(jA 9),(jA 10),(jA 11),(jA 12),(.va 2),(.va 1),(.va 3)]]) 9 (.appM a1i (.va 5) 9 65 b4b)))
def b6X:PT:=(.app nO (.lit [[(jA 7),(jA 8),(jA 9),(jA 10),(jA 11),(jA 12),(.va 2),(.va 1),(.va 3)]]) 9 (lO ff a1k a5K (.appM a1S (.va 4) 9 65 b4b)))
def a9J:PT:=(.ite d0t (.ret tt (.tup [b2w,a1L]) []) (nD e1G (nD e1G (nD e1G (nD e1G (lO ff a3b a2W (lO ff e1o a5K (lO ff e1c a5K (.both b8j b6X)))))))))
def b0O:PT:=c0e
def b7a:PT:=(lO ff a3b a2W (.both b0O b0O))
def b8h:PT:=(lO ff a3b a2W c0e)
def b7I:PT:=(lO ff (.pa 0 4) d1p (.both b7a b8h))
def b0I:PT:=c5E
def b8e:PT:=(lO ff (.pa 0 4) d1p (.both b0I b0I))
def b8q:PT:=(lO ff (.pa 0 4) d1p c5E)
def b6Y:PT:=(lO ff a3b a2W (.both b8e b8q))
def b6D:PT:=(lO ff (.pa 0 4) d1p (lO ff a3b a2W c0e))
def b5i:PT:=(.both b6Y b6D)
def a9D:PT:=(cA 31 a0J [] [] (cA 60 [e1K,a0Q] [] a2n (nD e1G (nD e1G (.both b7I b5i)))))
def a5I:PT:=(.ite (.and b2Y (.and e1p (.and e6A (.and c0a (.and e2q c0x))))) e5P (nD e1G (lO ff a1k a5K (nD a3Z (.ite (.le (.l 30) a0P) e5P (.ite d0t e5P (nD e1G (.storeM a3b e1j (.ret tt (.tup [b2w,a1h]) [])))))))))
def a3e:Qq:=⟨[(.sh (.one .val))],a5i,[a9J,a9D,a5I],nO,nO⟩
def c8P:List Cfg:=[{todo:=[(.code (tfR 9 490)),(.code (tfR 9 491)),(.code (tfR 5 31))],sl:=[(.va 0),.undef,(.junk 0),(.junk 1),(.ptr 0 0),(.junk 2),(.va 1),(jA 0),.undef,.undef,.undef]++jkR 3 41++udR 67,H:=[(.cells b3U 51 ff)],ni:=7,nb:=0,nv:=2,nj:=44},
 {todo:=[(.code (tfR 7 126)),(.code (tfR 7 127))],sl:=[(.va 0),.undef,(.junk 0),(.junk 1),(.ptr 0 0),(.va 1),(.junk 2),(.junk 3),.undef,.undef,.undef]++jkR 4 43++[.undef]++jkR 47 24++udR 40,H:=[(.cells c2L 51 ff)],ni:=6,nb:=0,nv:=2,nj:=71},
 {todo:=[(.code (tfR 10 1022)),(.code (tfR 10 1023))],sl:=[(.va 0),.undef]++jkR 0 6++[(.ptr 1 0),(.ptr 2 0),(jA 0)]++jkR 6 43++[.undef]++jkR 49 42++udR 22,H:=[(.cells b3U 51 ff),(.cells b6q 51 ff),(.cells e1j 38 ff)],ni:=19,nb:=0,nv:=1,nj:=91}]
def d2x:=okg 25 a3e c8P func25 call25 tt tt [] [] [] [(tfR 8 245),(tfR 6 63),(tfR 9 511)] (live:=tt)
def b3z:PT:=(nD a2c (nD a3Z (.ite e8s rF b1c)))
def b5S:PT:=(lO ff c0q a5K (nD e6G (lO ff c5N a5K (nD d6G (.ite c5u rF (jU 1 [a0d,a0q,a0d,a2Q,b1d,a3W,a7t,e5W,b0f] [c5A,d6r,c5u] d5I))))))
def b5D:PT:=(lO ff c5N a5K (nD e6G (lO ff c0q a5K (nD d6G (.ite d0h rF (jU 1 [a0d,a0q,a0d,a2Q,b1d,a3W,a7t,b0f,e5W] [c5A,d6r,d0h] [a1j,a0Q,a1f,a1d,a1i,a1S,a2J,a1G]))))))
def b5l:PT:=(lO ff e8D a5K (nD e1r (lO ff e5M a5K (nD b2N (.ite d6r rF (nD b6b (nD a3h (.both b5S b5D))))))))
def b5F:PT:=(lO ff c0q a5K (nD e6G (lO ff c5N a5K (nD d6G (.ite c5u rF (jU 1 [a0d,a0q,a0d,a2Q,b1d,a7t,a3W,e5W,b0f] [c5A,e6F,c5u] [a1j,a0Q,a1f,a1d,a1S,a1i,a1G,a2J]))))))
def b5m:PT:=(lO ff c5N a5K (nD e6G (lO ff c0q a5K (nD d6G (.ite d0h rF (jU 1 [a0d,a0q,a0d,a2Q,b1d,a7t,a3W,b0f,e5W] [c5A,e6F,d0h] [a1j,a0Q,a1f,a1d,a1S,a1i,a2J,a1G]))))))
def b5r:PT:=(lO ff e5M a5K (nD e1r (lO ff e8D a5K (nD b2N (.ite e6F rF (nD b6b (nD a3h (.both b5F b5m))))))))
def b5k:PT:=(lO ff d6t a5K (nD a0R (lO ff e6K a5K (nD b0j (.ite c5A rF (nD b6b (nD a3h (.both b5l b5r))))))))
def b5M:PT:=(lO ff c0q a5K (nD e6G (lO ff c5N a5K (nD d6G (.ite c5u rF (jU 1 [a0d,a0q,a0d,b1d,a2Q,a3W,a7t,e5W,b0f] [e0P,d6r,c5u] [a1j,a0Q,a1d,a1f,a1i,a1S,a1G,a2J]))))))
def b5A:PT:=(lO ff c5N a5K (nD e6G (lO ff c0q a5K (nD d6G (.ite d0h rF (jU 1 [a0d,a0q,a0d,b1d,a2Q,a3W,a7t,b0f,e5W] [e0P,d6r,d0h] [a1j,a0Q,a1d,a1f,a1i,a1S,a2J,a1G]))))))
def b5d:PT:=(lO ff e8D a5K (nD e1r (lO ff e5M a5K (nD b2N (.ite d6r rF (nD b6b (nD a3h (.both b5M b5A))))))))
def b4V:PT:=(lO ff c0q a5K (nD e6G (lO ff c5N a5K (nD d6G (.ite c5u rF (jU 1 [a0d,a0q,a0d,b1d,a2Q,a7t,a3W,e5W,b0f] [e0P,e6F,c5u] [a1j,a0Q,a1d,a1f,a1S,a1i,a1G,a2J]))))))
def b4Z:PT:=(lO ff c5N a5K (nD e6G (lO ff c0q a5K (nD d6G (.ite d0h rF (jU 1 [a0d,a0q,a0d,b1d,a2Q,a7t,a3W,b0f,e5W] [e0P,e6F,d0h] [a1j,a0Q,a1d,a1f,a1S,a1i,a2J,a1G]))))))
def b4W:PT:=(lO ff e5M a5K (nD e1r (lO ff e8D a5K (nD b2N (.ite e6F rF (nD b6b (nD a3h (.both b4V b4Z))))))))
def b5b:PT:=(lO ff e6K a5K (nD a0R (lO ff d6t a5K (nD b0j (.ite e0P rF (nD b6b (nD a3h (.both b5d b4W))))))))
def a6D:PT:=(nD a2c (.ite e0Z (nD b6b (nD a3h (lO ff e7S a2W (lO ff (.ea 1 a0d 9 0) a2W (.ite (.not (.and (.eq a0k a0l) (.and (.eq a0f a0o) (.and (.eq a0g a0r) (.and (.eq a0p a0v) (.and (.eq a0t a0z) (.eq a0u a0D))))))) rF (nD b6b (nD a3h (.both b5k b5b)))))))) a4C))
def a6B:PT:=(nD b6b (lO ff d6t a5K (nD (.is 0 8) (.ite (.lt a0k (.slen 8)) (nD b6b (lO ff e8D a5K (nD (.is 0 9) (.ite (.lt a0k (.slen 9)) (nD b6b (lO ff c0q a5K (nD (.is 0 10) (.ite (.lt a0k (.slen 10)) (nD b6b (nD a3h (lO ff d6t a5K (nD (treeI a0k (.slen 11)) (lO ff (.ea 11 a0k 6 0) a2W (lO ff e6K a5K (nD (treeI a0k (.slen 12)) (lO ff (.ea 12 a0k 6 0) a2W (.ite (.not (.and (.eq a0r a0C) (.and (.eq a0v a0N) (.and (.eq a0z b9f) (.and (.eq a0D a0T) (.and (.eq a0y a0X) (.eq a0B a1m))))))) rF (nD b6b (nD a3h (lO ff e8D a5K (nD (treeI a0k (.slen 13)) (lO ff (.ea 13 a0k 6 0) a2W (lO ff e5M a5K (nD (treeI a0k (.slen 14)) (lO ff (.ea 14 a0k 6 0) a2W (.ite (.not (.and (.eq a1b a4c) (.and (.eq a1B (.a 28)) (.and (.eq a1F (.a 29)) (.and (.eq a2A (.a 30)) (.and (.eq a4D (.a 31)) (.eq a8h (.a 32)))))))) rF (nD b6b (nD a3h (lO ff c0q a5K (nD (treeI a0k (.slen 15)) (lO ff (.ea 15 a0k 1 0) c0h (lO ff c5N a5K (nD (treeI a0k (.slen 16)) (lO ff (.ea 16 a0k 1 0) c0h (.ite (.not (.or (.and (.a 3) (.a 4)) (.and (.not (.a 3)) (.not (.a 4))))) rF (nD a1M (jU 1 [a0d,a1X,a0f,a0g,a0p,a0t,a0u,a0l,a0o] [a3E,a5W,(.a 2)] d5I))))))))))))))))))))))))))))) a8k)))) a8k)))) a8k))))
def a4b:Qq:=⟨[(.sh (.one .val)),(.sh (.one .val))],b3z,[a6D,a6B],nO,nO⟩
def c8a:List Cfg:=[{todo:=[(.code (tfR 6 52)),(.inLoop (tfR 6 52)),(.inBlock 0),(.code [tt,tt,tt])],sl:=[(.va 0),(.va 1),.undef,.undef,(.junk 0),(jA 0)]++jkR 1 153,H:=[],ni:=1,nb:=0,nv:=2,nj:=154},
 {todo:=[(.code (tfR 13 6732)),(.inLoop (tfR 13 6732)),(.inBlock 2),(.inBlock 1),(.code (tfR 8 211)),(.inLoop (tfR 6 52)),(.inBlock 0),(.code [tt,tt,tt])],sl:=[(.va 0),(.va 1),.undef,.undef,(.junk 0),(jA 0),(jA 1)]++jkR 1 23++[(.va 0),(jA 0),(.ea 0 (.a 2) 9 0),(.ea 0 (.a 2) 9 6),(.va 2),(jA 3),(.va 1),(jA 0),(.ea 1 (.a 2) 9 0),(.ea 1 (.a 2) 9 6),(.va 3),(jA 4),(.bool (.a 0)),(.junk 24),(.junk 25),(.va 0),(jA 0),(.ea 0 (.a 2) 9 0),(.ea 0 (.a 2) 9 7),(.va 4),(jA 5),(.va 1),(jA 0),(.ea 1 (.a 2) 9 0),(.ea 1 (.a 2) 9 7),(.va 5),(jA 6),(.bool (.a 1)),(.junk 26),(.junk 27),(.va 0),(jA 0),(.ea 0 (.a 2) 9 0),(.ea 0 (.a 2) 9 8),(.va 6),(jA 7),(.va 1),(jA 0),(.ea 1 (.a 2) 9 0),(.ea 1 (.a 2) 9 8),(.va 7),(jA 8),(.bool (.a 2))]++jkR 28 86,H:=[],ni:=9,nb:=3,nv:=8,nj:=114}]
def d0S:=okg 33 a4b c8a func33 call33 tt ff [(tfR 6 52),(tfR 13 6732)]
def a3v:PT:=(.ite (.lt a0v a0q) e7e (nD d6G (.ite (.le b0f a0v) e7e (nD (treeI a0v b0f) (lO ff (.ea 7 a0v 1 0) c0h (.ite a5W e7K (nD d6G (.ite (.eq b0f a0q) (.app nO (.lit []) 1 e5I) (.appM .nilS (.va 7) 1 4 e5I)))))))))
def a9l:Qq:=⟨[(.sh (.agg [.val,.val,.val,.val,jD,jD,jD,jD,.val,jD,jD,jD,jD,jD,jD,.val,.val,.val,.bool])),(.sh (.one jD))],a3v,[],nO,nO⟩
def c3U:=okg 41 a9l [] func41 call41 tt ff [] [] [] [] [99999] (live:=tt)
def b2e:PT:=(nD a2c (.ite e0W (nD e0W (lO ff (.ea 0 a0q 5 1) b6e (nD a2c (.ite e7h (nD e7h (lO ff (.ea 0 d1O 5 1) b6e (nD a2c (.ite e7t (nD e7t (lO ff (.ea 0 d0c 5 1) b6e (nD a2c (.ite e7w (nD e7w (lO ff (.ea 0 d0i 5 1) b6e (nD a2c (.ite e6g (nD e6g (lO ff (.ea 0 a4P 5 1) b6e (nD a2c (.ite e6S (nD e6S (lO ff (.ea 0 d0U 5 1) b6e c3i)) c2o)))) c2X)))) c3h)))) c1U)))) c3l)))) e7Z))
def b1Z:Qq:=⟨[(.sh (.one .val))],b2e,[],nO,nO⟩
def c7X:=okg 49 b1Z [] func49 call49 ff ff
def b9y:PT:=e7I
def a9x:PT:=(.ite a1p (nD a2H (lO ff a3T d9m (.ite d5A (.ite a3w (jU 0 [a0d,d1F,a0f,a0g,a0p,a0t,a0u,a0o] [] a0J) (.ite a2C (jU 0 [a0d,d0U,a0f,a0g,a0p,a0t,a0o,a0l] [] a0J) (.ite a2I (jU 0 [a0d,a4P,a0f,a0g,a0p,a0o,a0u,a0l] [] a0J) (.ite a2Z (jU 0 [a0d,d0i,a0f,a0g,a0o,a0t,a0u,a0l] [] a0J) (.ite a1n (jU 0 [a0d,d0c,a0f,a0o,a0p,a0t,a0u,a0l] [] a0J) (.ite c5z (jU 0 [a0d,d1O,a0o,a0g,a0p,a0t,a0u,a0l] [] a0J) .stuck)))))) (nD a1M (jU 0 e1E [] a0J))))) c2G)
def a4M:Qq:=⟨[(.sh (.one .val))],b9y,[a9x],nO,nO⟩
def d4f:List Cfg:=[{todo:=[(.code (tfR 6 52)),(.inLoop (tfR 6 52)),(.inBlock 0),(.code [tt,tt,tt])],sl:=[(.junk 0),.undef,(.ptr 0 0),(.ptr 1 0),(.junk 1),(.junk 2),(.va 0),(jA 0),(jA 1)]++jkR 3 11++[.undef],H:=[(.cells a3z 51 ff),(.cells b4j 51 ff)],ni:=8,nb:=0,nv:=1,nj:=14}]
def d6U:=okg 57 a4M d4f func57 call57 ff ff [(tfR 6 52)]
def b8D:PT:=(nD a0R (.ite (.lt (.l 16) a2Q) d6w (nD a0R (jU 0 [a2Q,a0q] [] [a1f,a1j,a0Q,a1d]))))
def a8D:PT:=(.ite a1p (nD a2H (lO ff (.ea 0 a0k 3 0) d6o (.ite (.lt a0f c3N) e7J (nD a0R (.ite (.le a2Q a0f) e7J (.ite c0o b6o (.ite b0X b6o (.ite d6m b6o (.ite (.lt (.l 24) a0p) b6o (.cut 0 nO (sm (.a 1)) 3 (nD e1r (jU 1 [a0d,a0k,a0f,a2Q,a0g,a0p,a3W,a0q] [(.le a2Q a0f),b0X,d6m,(.lt (.l 24) a0p)] [a1j,a1f,a1i,a0Q,a1d])))))))))))) a8l)
def a8J:PT:=(.ite (.lt a0l a0u) (nD (treeI a0l a2Q) (lO ff (.ea 2 a0l 3 0) d6o (.ite (.eq a0o a0f) (.ite (.eq a0r a0p) d6h e2e) e2e))) (nD a1M (jU 0 c0g [] [a1j,a1d,a0Q,a1i])))
def a3S:Qq:=⟨[(.sh (.agg [.val,.val,.val,.val]))],b8D,[a8D,a8J],nO,nO⟩
def d2W:List Cfg:=[{todo:=[(.code (tfR 6 52)),(.inLoop (tfR 6 52)),(.inBlock 0),(.code [tt,tt,tt])],sl:=[(.junk 0),(.ptr 0 0),(.junk 1),(.junk 2),(.junk 3),.undef]++jkR 4 6++[(.va 0),(jA 0),(jA 1)]++jkR 10 56,H:=[(.cells [a0Q,a1f,a1j,a1d] 27 ff)],ni:=2,nb:=0,nv:=4,nj:=66},
 {todo:=[(.code (tfR 16 54076)),(.inLoop (tfR 16 54076)),(.inBlock 2),(.inBlock 1),(.code (tfR 9 423)),(.inLoop (tfR 6 52)),(.inBlock 0),(.code [tt,tt,tt])],sl:=[(.junk 0),(.ptr 0 0),(.junk 1),(.junk 2),(.ptr 1 0),.undef]++jkR 3 6++[(.va 0),(jA 0),(jA 1)]++jkR 9 8++[(.ptr 1 0),(jA 2),(.ptr 0 1),(.va 1),(jA 3),(.bool (.a 0))]++jkR 17 5++[(.ptr 1 1),(jA 4),(.bool (.a 1)),(.junk 22),(.junk 23),(.ptr 1 2),(jA 5),(.bool (.a 2)),(.junk 24),(.junk 25),(.ptr 1 2),(jA 5),(.bool (.a 3))]++jkR 26 4++[(.va 2),(jA 6),(jA 7)]++jkR 30 17,H:=[(.cells [a1d,a0Q,a1j,a1i] 27 ff),(.cells f8r 89 ff)],ni:=8,nb:=4,nv:=5,nj:=47}]
def d5o:=okg 65 a3S d2W func65 call65 ff ff [(tfR 6 52),(tfR 16 54076)]
def b2y:PT:=(.ite e0k e5J (.ite (.lt d0i a0d) e5J (nD a2c (nD a3Z (.ite e8s e0q (nD a2c (.ite c0c e0q (.app nO (.lit [[(jA 1),(jA 2),(jA 3),(jA 4),(jA 5),(jA 6)]]) 6 (.app (sm 2) (.va 0) 6 (.app (sm 3) (.va 1) 6 (jU 0 [a0d,a0q,a0k,a0f,a0g,a0p,a0t,a0u] [] [a1j,a0Q,a1i])))))))))))
def a6l:PT:=(nD a0R (.ite (.lt a0k a2Q) (nD c7m (lO ff (.ea 2 a0k 6 0) a2W (cA 104 [b9U] [] a0W (.ite e2o e5J (nD a1M (jU 0 e1E [] c2x)))))) (nD a2c (.ite d5B (.app nO (.lit []) 6 (jU 1 e0z [] [a0Q,a1d])) (.appM .nilS (.va 0) 6 51 (jU 1 e0z [] [a0Q,a1d]))))))
def a6p:PT:=(nD a3Z (.ite (.lt a0k a0P) (.ite e2c (nD a2H (lO ff b2P a2W (nD c7d (.storeM (.ea 1 a0k 6 0) a5t e6B)))) (.ite e0U (nD a2H (lO ff b2P a2W (cA 109 [b0a,a0Q,a1P,b9U] [] a1A (.ite a4h (nD a2H (lO ff b2P a2W e0G)) e6B)))) (.ite e2D (nD a2H (lO ff b2P a2W (cA 110 [b0a,a0Q,a1P,b9U] [] a2n e0G))) e6B))) (.ret ff (.tup [a0Q,a1h]) [])))
def a1I:Qq:=⟨[(.sh (.one jD)),(.sh (.agg [jD,jD,jD,jD,jD,jD])),(.sh (.one .val)),(.sh (.one .val))],b2y,[a6l,a6p],nO,nO⟩
def c6S:List Cfg:=[{todo:=[(.code (tfR 9 500)),(.inLoop (tfR 9 500)),(.inBlock 0),(.code (tfR 6 63))],sl:=[(jA 0),(.junk 0),(.va 0),(.va 1),.undef,(.ptr 0 0),.undef,.undef,(.junk 1),(.junk 2),(.va 2),(jA 1),.undef,.undef]++jkR 3 35++udR 51,H:=[(.cells b4j 51 ff),(.row 2 51 6)],ni:=8,nb:=0,nv:=3,nj:=38},
 {todo:=[(.code (tfR 11 2036)),(.inLoop (tfR 11 2036)),(.inBlock 2),(.code (tfR 8 255))],sl:=[(jA 0),(.junk 0),(.junk 1),(.va 0),.undef,(.ptr 0 0),.undef,.undef]++jkR 2 4++[(.va 1),(jA 1)]++jkR 6 85++[.undef],H:=[(.cells b4j 51 ff)],ni:=8,nb:=0,nv:=2,nj:=91}]
def c9x:=okg 73 a1I c6S func73 call73 tt ff [(tfR 9 500),(tfR 11 2036)] [] [] [] [99999] (live:=tt)
def c4j:PT:=e7D
def c4l:Qq:=⟨[(.sh (.agg [jD,jD,jD,jD,jD,jD])),(.sh (.agg [jD,jD,jD,jD,jD,jD]))],c4j,[],nO,nO⟩
def e1D:=okg 81 c4l [] func81 call81 ff ff
def c2P:PT :=
 (nD (.is 3 0)
 (.ite (.not (.sis 0 []))
 (nD (.is 3 0)
 (.ite (.le (.stl 0) (.l 12))
  (nD (.is 3 0)
  (nD (.lt (.l 0) (.stl 0))
  (nD (.and (.le (.l (-2147483648)) (.sat 0 (.l 0))) (.le (.sat 0 (.l 0)) (.l 2147483647)))
  (cA 124 [(.int .i32 (.sat 0 (.l 0)))] [] [(.one .bool)]
  (.ite (.a 0)
  (cA 125 [(.va 0),(jE 0),(.fn 126 0 [])] [] [(.one .val)]
  (nD (.is 3 1)
  (nD (.is 3 0)
  (.ret ff (.bool (.seq 1 0)) []))))
  rF)))))
  rF))
 rF))
def c2z:Qq:=⟨[(.sh (.one .val))],c2P,[],nO,nO⟩
def d9f:=okg 97 c2z [] func97 call97 ff ff
def b1F:PT:=c5v
def b2b:Qq:=⟨[(.sh (.one .val))],b1F,[],nO,nO⟩
def c7C:=okg 105 b2b [] func105 call105 ff ff
def b2g:PT:=e6c
def b2c:Qq:=⟨[(.sh (.one (.int .u8)))],b2g,[],nO,nO⟩
def c7M:=okg 113 b2c [] func113 call113 ff ff
def b9F:PT:=(cA 134 a0J [] a1A (.ite a4h (.ret ff (.tup [(.agg e6W),b2w]) []) (cA 135 a0J [] [(.one .val),(.one .val)] (nD a0R (.ite (.not (.nil 2)) (.ret ff (.tup [(.agg [a1f,.nilS]),b2w]) []) (nD a2c (jU 0 [a0q,a8b,a0q] [] c2f)))))))
def c1w:PT:=(cA 81 [b6g,d0j] [] a0W (lO ff (.ea 1 a0f 1 0) b6e (nD (treeB (.sub a0C a0N)) (nD a0K (jU 0 [(.mx a0d (.sub a0C a0N)),a0k,(jP 2)] [] c2f)))))
def c1b:PT:=(lO ff (.ea 1 a0f 1 0) b6e (cA 81 [b6g,d0j] [] a0W (nD (treeB (.sub a0N a0C)) (nD a0K (jU 0 [(.mx a0d (.sub a0N a0C)),a0k,(jP 2)] [] c2f)))))
def a7L:PT:=(.ite c0i (nD e5Y (lO ff (.ea 0 a0f 12 0) c3X (nD b6k (.both c1w c1b)))) (nD a2c (jU 1 [a0d,a8b,a0q] [] [a0Q,a1j])))
def a7I:PT:=(.ite c0i (nD b6k (lO ff (.ea 1 a0f 12 0) c3X (.ite (.and e6A (.and c0a (.and e2q (.and c0x (.and c5w c2S))))) (nD e5Y (lO ff (.ea 0 a0f 1 0) b6e (nD (treeB (.sub a0q a0C)) (nD a0K (jU 1 [(.sub a0q a0C),a0k,(jP 2)] [] c2f))))) (nD a0K (jU 1 e7O [] c2f))))) (nD a2c (jU 2 [a0d,a8b,a0q] [] a0J)))
def a9v:PT:=(.ite c0i (nD e5Y (lO ff (.ea 0 a0f 1 0) b6e (nD (treeB (.add a0g a0d)) (nD e5Y (.storeM (.ea 0 a0f 1 0) [(.int .i64 (.add a0g a0d))] (nD a0K (jU 2 e7O [] a0J))))))) (.ret ff (.tup [(.agg [.nilS,a1j]),b1e]) []))
def a1q:Qq:=⟨[(.sh (.one .val))],b9F,[a7L,a7I,a9v],nO,nO⟩
def d3S:List Cfg:=[{todo:=[(.code (tfR 9 500)),(.inLoop (tfR 9 500)),(.inBlock 0),(.code (tfR 6 63))],sl:=[(.va 0),.undef,(.ptr 0 0),(.junk 0),(.va 1),(.junk 1),(jA 0),(.junk 2),(.junk 3),.undef,.undef,.undef,(.junk 4),(.junk 5),(.junk 6),.undef]++jkR 7 7++[.undef,.undef,(.va 0),(jA 1),(jA 2)]++jkR 14 17++udR 32,H:=[(.cells e6W 163 ff)],ni:=3,nb:=0,nv:=2,nj:=31},
 {todo:=[(.code (tfR 10 1012)),(.inLoop (tfR 10 1012)),(.inBlock 2),(.code (tfR 7 127))],sl:=[(.junk 0),.undef,(.ptr 0 0),(.junk 1),(.va 0),(.junk 2),(jA 0)]++jkR 3 4++[.undef,(.junk 7),(.junk 8),(.junk 9),.undef]++jkR 10 7++[.undef,.undef]++jkR 17 20++[(.va 1),(jA 1),(jA 2)]++jkR 37 14++udR 15,H:=[(.cells e6W 163 ff)],ni:=3,nb:=0,nv:=2,nj:=51},
 {todo:=[(.code (tfR 11 2036)),(.inLoop (tfR 11 2036)),(.inBlock 4),(.code (tfR 8 255))],sl:=[(.junk 0),.undef,(.ptr 0 0),(.junk 1),(.va 0),(.junk 2),(jA 0)]++jkR 3 8++[.undef]++jkR 11 7++[.undef,.undef]++jkR 18 38++[(jA 1),(jA 2)]++jkR 56 10++[.undef,.undef],H:=[(.cells e6W 163 ff)],ni:=3,nb:=0,nv:=1,nj:=66}]
def d7h:=okg 121 a1q d3S func121 call121 tt ff [(tfR 9 500),(tfR 10 1012),(tfR 11 2036)]
def d3C:PT:=(jU 0 [a0d] [] [])
def d1v:PT:=.stuck
def c0F:Qq:=⟨[(.sh (.one (.int .u8)))],d3C,[d1v],nO,nO⟩
def c7T:List Cfg:=[{todo:=[(.code (tfR 6 52)),(.inLoop (tfR 6 52)),(.inBlock 0),(.code [tt,tt,tt])],sl:=[(.int .u8 (.a 0)),.undef,(.junk 0),(.str [123,125,40,41,58,44,64,43,45,61]),(jE 0)]++udR 11,H:=[],ni:=1,nb:=0,nv:=0,nj:=1}]
def d1t:=okg 129 c0F c7T func129 call129 ff ff [(tfR 6 52)]
def c4A:PT:=e8p
def c3Z:Qq:=⟨[(.sh (.one (.int .i32)))],c4A,[],nO,nO⟩
def e0E:=okg 137 c3Z [] func137 call137 ff ff
def b9d:PT:=e7k
def b9q:PT:=e8o
def b9j:PT:=(.mkM a0P a3z 51 6 48 (.both b9d b9q))
def b8S:PT:=e8t
def b9p:PT:=e8y
def b8W:PT:=(.mkM a0P a3H 4 1 1 (.both b8S b9p))
def b9h:PT:=e7o
def b8U:PT:=e8j
def b9o:PT:=(.mkM a0P a3H 4 1 1 (.both b9h b8U))
def b6K:PT:=(.both b8W b9o)
def b7u:PT:=(cA 32 a0J [] a2n (.both b9j b6K))
def b7x:PT:=e7k
def b7Q:PT:=e8o
def b7C:PT:=(cA 32 a0J [] a2n (.both b7x b7Q))
def b7G:PT:=(cA 32 a0J [] a2n (.mkM a0P a3H 4 1 1 e0s))
def b8r:PT:=(.mkM a0P a3H 4 1 1 (cA 32 a0J [] a2n e0s))
def b7i:PT:=(.mkM a0P a3H 4 1 1 (.both b7G b8r))
def b7X:PT:=(cA 32 a0J [] a2n (.mkM a0P a3H 4 1 1 e1J))
def b7J:PT:=(.mkM a0P a3H 4 1 1 (cA 32 a0J [] a2n e1J))
def b6L:PT:=(.mkM a0P a3H 4 1 1 (.both b7X b7J))
def b6Q:PT:=(.both b7i b6L)
def b7g:PT:=(.mkM a0P a3z 51 6 48 (.both b7C b6Q))
def b7k:PT:=e8t
def b6N:PT:=e8y
def b6J:PT:=(cA 32 a0J [] a2n (.both b7k b6N))
def b7r:PT:=(cA 32 a0J [] a2n (.mkM a0P a3H 4 1 1 e2C))
def b6R:PT:=(.mkM a0P a3H 4 1 1 (cA 32 a0J [] a2n e2C))
def b7P:PT:=(.mkM a0P a3z 51 6 48 (.both b7r b6R))
def b7z:PT:=(cA 32 a0J [] a2n (.mkM a0P a3z 51 6 48 e0X))
def b6C:PT:=(.mkM a0P a3z 51 6 48 (cA 32 a0J [] a2n e0X))
def b7n:PT:=(.mkM a0P a3H 4 1 1 (.both b7z b6C))
def b7Z:PT:=(.both b7P b7n)
def b6I:PT:=(.mkM a0P a3H 4 1 1 (.both b6J b7Z))
def b7F:PT:=e7o
def b7T:PT:=e8j
def b7Y:PT:=(cA 32 a0J [] a2n (.both b7F b7T))
def b8b:PT:=(cA 32 a0J [] a2n (.mkM a0P a3H 4 1 1 e1W))
def b7V:PT:=(.mkM a0P a3H 4 1 1 (cA 32 a0J [] a2n e1W))
def b8l:PT:=(.mkM a0P a3z 51 6 48 (.both b8b b7V))
def b7o:PT:=(cA 32 a0J [] a2n (.mkM a0P a3z 51 6 48 e1Q))
def b8n:PT:=(.mkM a0P a3z 51 6 48 (cA 32 a0J [] a2n e1Q))
def b7K:PT:=(.mkM a0P a3H 4 1 1 (.both b7o b8n))
def b6E:PT:=(.both b8l b7K)
def b8v:PT:=(.mkM a0P a3H 4 1 1 (.both b7Y b6E))
def b7h:PT:=(.both b6I b8v)
def b6W:PT:=(.both b7g b7h)
def b7e:PT:=e7H
def b6H:PT:=e7f
def b8o:PT:=(.mkM a0P a3z 51 6 48 (.both b7e b6H))
def b6P:PT:=e6N
def b7c:PT:=e6Z
def b6Z:PT:=(.mkM a0P a3H 4 1 1 (.both b6P b7c))
def b7d:PT:=e7L
def b6G:PT:=e6y
def b7p:PT:=(.mkM a0P a3H 4 1 1 (.both b7d b6G))
def b7t:PT:=(.both b6Z b7p)
def b7U:PT:=(cA 32 a0J [] a2n (.both b8o b7t))
def b7B:PT:=e7H
def b6V:PT:=e7f
def b7D:PT:=(cA 32 a0J [] a2n (.both b7B b6V))
def b6A:PT:=(cA 32 a0J [] a2n (.mkM a0P a3H 4 1 1 e2m))
def b8m:PT:=(.mkM a0P a3H 4 1 1 (cA 32 a0J [] a2n e2m))
def b8w:PT:=(.mkM a0P a3H 4 1 1 (.both b6A b8m))
def b7y:PT:=(cA 32 a0J [] a2n (.mkM a0P a3H 4 1 1 e1S))
def b7s:PT:=(.mkM a0P a3H 4 1 1 (cA 32 a0J [] a2n e1S))
def b6F:PT:=(.mkM a0P a3H 4 1 1 (.both b7y b7s))
def b7H:PT:=(.both b8w b6F)
def b7M:PT:=(.mkM a0P a3z 51 6 48 (.both b7D b7H))
def b6M:PT:=e6N
def b8p:PT:=e6Z
def b7A:PT:=(cA 32 a0J [] a2n (.both b6M b8p))
def b8a:PT:=(cA 32 a0J [] a2n (.mkM a0P a3H 4 1 1 e0V))
def b6B:PT:=(.mkM a0P a3H 4 1 1 (cA 32 a0J [] a2n e0V))
def b8c:PT:=(.mkM a0P a3z 51 6 48 (.both b8a b6B))
def b7E:PT:=(cA 32 a0J [] a2n (.mkM a0P a3z 51 6 48 b4m))
def b7b:PT:=(.mkM a0P a3z 51 6 48 (cA 32 a0J [] a2n b4m))
def b7O:PT:=(.mkM a0P a3H 4 1 1 (.both b7E b7b))
def b7m:PT:=(.both b8c b7O)
def b8g:PT:=(.mkM a0P a3H 4 1 1 (.both b7A b7m))
def b7L:PT:=e7L
def b6S:PT:=e6y
def b8f:PT:=(cA 32 a0J [] a2n (.both b7L b6S))
def b7W:PT:=(cA 32 a0J [] a2n (.mkM a0P a3H 4 1 1 e1h))
def b6U:PT:=(.mkM a0P a3H 4 1 1 (cA 32 a0J [] a2n e1h))
def b7w:PT:=(.mkM a0P a3z 51 6 48 (.both b7W b6U))
def b6O:PT:=(cA 32 a0J [] a2n (.mkM a0P a3z 51 6 48 e0e))
def b7R:PT:=(.mkM a0P a3z 51 6 48 (cA 32 a0J [] a2n e0e))
def b7f:PT:=(.mkM a0P a3H 4 1 1 (.both b6O b7R))
def b8d:PT:=(.both b7w b7f)
def b6T:PT:=(.mkM a0P a3H 4 1 1 (.both b8f b8d))
def b8u:PT:=(.both b8g b6T)
def b7N:PT:=(.both b7M b8u)
def a5g:PT:=(cA 18 [a0E] [] a0W (.ite d5X (cA 17 c2h [] a0W (.ite (.not (.eq a0t a0q)) (.ret ff (.tup [(.agg b2t),a2u]) []) (nD a3Z (.both b7u b6W)))) (.ite (.not d5X) (.ret ff (.tup [(.agg b2t),a2Y]) []) (nD a3Z (.both b7U b7N)))))
def b4x:Qq:=⟨[(.sh (.agg [.val,.val,.val,.val])),(.sh (.agg [jD,jD,jD,jD]))],a5g,[],nO,nO⟩
def d3A:=okg 10 b4x [] func10 call10 ff ff
def b2U:PT:=(cA 43 a0J [] a0W (.ite e1f (cA 44 [a0Q] [] a0W (.ite (.not c5z) c1Y e7T)) (.ite d0t d1u e7T)))
def a6n:PT:=(nD a0R (.ite (.lt a0d a2Q) (nD (treeI a0d a2Q) (lO ff (.ea 2 a0d 3 0) d6o (.ite (.lt a0k c3N) e7J (nD a3Z (.ite (.le a0P a0k) e7J (.ite c5C b6o (.ite a1e b6o (.ite c0o b6o (.ite (.lt (.l 24) a0g) b6o (jU 1 [a0d,a0q,a0k,a0P,a0f,a0g] [(.le a0P a0k),a1e,c0o,(.lt (.l 24) a0g)] b0e)))))))))) (nD b0j (.ite (.lt d1F b1d) d6w (jU 2 [a0q] [] e1Z)))))
def a6m:PT:=(.ite a1p (nD c7m (lO tt (.ea 2 a0k 3 0) b6e (.ite (.eq a0u a0f) (nD c7m (lO tt (.ea 2 a0k 3 1) b6e (.ite (.eq a0l a0p) d6h c5H))) c5H))) (nD a1R (jU 0 [f0x] [] b0e)))
def a6r:PT:=(nD b0j (.ite (.lt a0d b1d) (nD (treeI a0d b1d) (lO ff (.ea 3 a0d 3 0) d6o (.ite d1H e7J (nD a2c (.ite (.le a8b a0k) e7J (.ite (.lt a0f d1O) b6o (.ite a1e b6o (.ite e2s b6o (nD a2H (lO tt (.ea 0 a0k 5 1) b6e (.ite (.lt a0p a0g) b6o (jU 3 [a0d,a0q,a0k,a8b,a0f,a0g,a0p] [(.le a8b a0k),a1e,e2s,(.lt a0p a0g)] e1Z)))))))))))) a8l))
def a6w:PT:=(.ite a1p (nD (treeI a0k b1d) (lO tt (.ea 3 a0k 3 0) b6e (.ite (.eq a0l a0f) d6h (nD a1M (jU 3 [a0d,a1X,a0f,a0g,a0p,a0t,a0u] d6y e1Z))))) (nD a1R (jU 2 [f0x] [] e1Z)))
def a1y:Qq:=⟨[(.sh (.agg [.val,.val,.val,.val]))],b2U,[a6n,a6m,a6r,a6w],nO,nO⟩
def c6X:List Cfg:=[{todo:=[(.code (tfR 9 500)),(.inLoop (tfR 9 500)),(.inBlock 0),(.code (tfR 6 63))],sl:=[(.junk 0),(.ptr 0 0),(.junk 1),(.junk 2),(jA 0),(.junk 3),(.junk 4),.undef,.undef,.undef]++jkR 5 10++[.undef]++jkR 15 70++udR 66,H:=[(.cells e1Z 27 ff)],ni:=1,nb:=0,nv:=4,nj:=85},
 {todo:=[(.code (tfR 18 256316)),(.inLoop (tfR 18 256316)),(.inBlock 2),(.inBlock 1),(.code (tfR 11 2003)),(.inLoop (tfR 9 500)),(.inBlock 0),(.code (tfR 6 63))],sl:=[(.junk 0),(.ptr 0 0),(.junk 1),(.junk 2),(jA 0),(.ptr 1 0),(jA 1),.undef,.undef,.undef]++jkR 3 10++[.undef]++jkR 13 20++[(.ptr 1 0),(jA 2),(.ptr 0 1),(.va 0),(jA 3),(.bool (.a 0))]++jkR 33 5++[(.ptr 1 1),(jA 4),(.bool (.a 1)),(.junk 38),(.junk 39),(.ptr 1 2),(jA 5),(.bool (.a 2)),(.junk 40),(.junk 41),(.ptr 1 2),(jA 5),(.bool (.a 3))]++jkR 42 26++udR 66,H:=[(.cells b0e 27 ff),(.cells f8r 89 ff)],ni:=6,nb:=4,nv:=4,nj:=68},
 {todo:=[(.code (tfR 11 2036)),(.inLoop (tfR 11 2036)),(.inBlock 4),(.code (tfR 8 255))],sl:=[(.junk 0),(.ptr 0 0)]++jkR 1 5++[(jA 0)]++jkR 6 12++[.undef]++jkR 18 136,H:=[(.cells e1Z 27 ff)],ni:=1,nb:=0,nv:=4,nj:=154},
 {todo:=[(.code (tfR 20 1042748)),(.inLoop (tfR 20 1042748)),(.inBlock 6),(.inBlock 5),(.code (tfR 13 8147)),(.inLoop (tfR 11 2036)),(.inBlock 4),(.code (tfR 8 255))],sl:=[(.junk 0),(.ptr 0 0)]++jkR 1 5++[(jA 0),(.ptr 1 0),(jA 1)]++jkR 6 10++[.undef]++jkR 16 90++[(.ptr 1 0),(jA 2),(.ptr 0 0),(.va 0),(jA 3),(.bool (.a 0))]++jkR 106 5++[(.ptr 1 1),(jA 4),(.bool (.a 1)),(.junk 111),(.junk 112),(.ptr 1 2),(jA 5),(.bool (.a 2)),(.junk 113),(.junk 114),(.ptr 1 2),(jA 5),(.ptr 0 0),(.va 0),(.ptr 1 0),(jA 2),(.ea 0 (.a 2) 5 0),(.ea 0 (.a 2) 5 1),(jA 6),(.bool (.a 3))]++jkR 115 15,H:=[(.cells e1Z 27 ff),(.cells f8r 91 ff)],ni:=7,nb:=4,nv:=4,nj:=130}]
def c9Y:=okg 18 a1y c6X func18 call18 ff ff [(tfR 9 500),(tfR 18 256316),(tfR 11 2036),(tfR 20 1042748)]
def a8W:PT:=(nD e0l (.ite b4c d5Z (cA 53 c1x [] a1A (.ite a4h d5Z (nD e1G (lO ff a1k a5K (nD a3Z (jU 0 [a0d,a0P,a0q] [] [.nilS,a0Q]))))))))
def a6q:PT:=(.ite c0i (nD b6k (lO ff (.ea 1 a0f 9 0) e1N (nD (treeI a0d a2Q) (lO ff (.ea 2 a0d 6 0) a2W (.app nO (.lit [[(jA 3),(jA 4),(jA 5),(jA 6),(jA 7),(jA 8),(jA 9),(jA 10),(jA 11),(jA 12),(jA 13),(jA 14)]]) 12 (.app (sm 0) (.va 5) 12 (nD a0K (jU 0 e7O [] [a1G,a0Q])))))))) b1b)
def a4q:Qq:=⟨[(.sh (.one .val)),(.sh (.one jD))],a8W,[a6q],nO,nO⟩
def c6y:List Cfg:=[{todo:=[(.code (tfR 7 116)),(.inLoop (tfR 7 116)),(.inBlock 0),(.code [tt,tt,tt,tt])],sl:=[(.junk 0),(jA 0),.undef,.undef,(.junk 1),(.va 0),.undef]++jkR 2 12++[(.va 1),(jA 1),(jA 2)]++jkR 14 15++[.undef],H:=[(.row 0 75 12)],ni:=3,nb:=0,nv:=2,nj:=29}]
def c9h:=okg 26 a4q c6y func26 call26 tt ff [(tfR 7 116)]
def b1z:PT:=(cA 20 a0J [] a3x (jU 0 [a0q] [] [.nilS,a0Q]))
def a5Y:PT:=(nD a3Z (.ite (.lt a0d a0P) (nD a3h (nD a3h (nD a3h (nD a3h (lO ff (.ea 1 a0d 9 0) a2W (lO ff e6K a5K (lO ff e5M a5K (lO ff c5N a5K (.app nO (.lit [[(jA 1),(jA 2),(jA 3),(jA 4),(jA 5),(jA 6),(.va 2),(.va 3),(.va 4)]]) 9 (.app (sm 0) (.va 5) 9 (nD a1R (jU 0 [f0x] [] [a1G,a0Q])))))))))))) (.ret tt a1j [])))
def a4S:Qq:=⟨[(.sh (.one .val))],b1z,[a5Y],nO,nO⟩
def c4U:List Cfg:=[{todo:=[(.code (tfR 7 116)),(.inLoop (tfR 7 116)),(.inBlock 0),(.code [tt,tt,tt,tt])],sl:=[(.junk 0),.undef,(.junk 1),(.va 0),(.va 1),(jA 0)]++jkR 2 32++[.undef],H:=[(.row 0 121 9)],ni:=1,nb:=0,nv:=2,nj:=34}]
def c7v:=okg 34 a4S c4U func34 call34 tt tt [(tfR 7 116)]
def a2S:PT:=(.ite (.lt a0v a0q) b0k (nD e1r (.ite (.lt a3W a0v) b0k (nD e1r (.ite (.eq a0v a3W) (.ite a3E b0k c5G) c5G)))))
def a8G:Qq:=⟨[(.sh (.agg [.val,.val,.val,.val,jD,jD,jD,jD,.val,jD,jD,jD,jD,jD,jD,.val,.val,.val,.bool])),(.sh (.one jD))],a2S,[],nO,nO⟩
def c2n:=okg 42 a8G [] func42 call42 tt ff (live:=tt)
def a7b:PT:=(cA 43 a0J [] a0W (.ite d6s c5U (cA 47 [e6k] [] a1A (.ite a4h c5U (jU 0 [a0d,a0q,a0q,a0q,a0q,a0k,a0f,a0g,a0p,a0t,a0u] [] a0J)))))
def a3r:PT:=(nD a2c (.ite (.lt a0p a8b) (jU 1 [a0d,a0k,a0f,a0g,a0p,a0q,a0t,a0u,a0l,a0o,a0r,a0v] [] a0J) (.ret ff (.tup [a1P,a1N,a1E]) [])))
def a6L:PT:=(.ite (.eq a0p d0U) (.ite (.lt a0t a0z) (nD e6S (lO ff (.ea 0 d0U 5 3) b6e (nD e2f (nD e6S (lO ff (.ea 0 d0U 5 2) b6e (nD e0J (nD e6S (lO ff (.ea 0 d0U 5 4) b6e (.ite c5I (nD d6B (nD b9Z (jU 1 [a0d,d5C,e5T,(jP 3),d0U,c3n,a0u,a0l,a0o,a0r,a0v,a0z] [] a0J))) (nD b9Z (jU 1 [a0d,d5C,e5T,a0g,d0U,c3n,a0u,a0l,a0o,a0r,a0v,a0z] [] a0J))))))))))) (jU 0 [a0d,a0k,a0f,a0g,d1F,a0u,a0l,a0o,a0r,a0v,a0z] [] a0J)) (.ite (.eq a0p a4P) (.ite (.lt a0t a0v) (nD e6g (lO ff (.ea 0 a4P 5 3) b6e (nD e2f (nD e6g (lO ff (.ea 0 a4P 5 2) b6e (nD e0J (nD e6g (lO ff (.ea 0 a4P 5 4) b6e (.ite c5I (nD d6B (nD b9Z (jU 1 [a0d,d5C,e5T,(jP 3),a4P,c3n,a0u,a0l,a0o,a0r,a0v,a0z] [] a0J))) (nD b9Z (jU 1 [a0d,d5C,e5T,a0g,a4P,c3n,a0u,a0l,a0o,a0r,a0v,a0z] [] a0J))))))))))) (jU 0 [a0d,a0k,a0f,a0g,d0U,a0u,a0l,a0o,a0r,a0v,a0z] [] a0J)) (.ite (.eq a0p d0i) (.ite (.lt a0t a0r) (nD e7w (lO ff (.ea 0 d0i 5 3) b6e (nD e2f (nD e7w (lO ff (.ea 0 d0i 5 2) b6e (nD e0J (nD e7w (lO ff (.ea 0 d0i 5 4) b6e (.ite c5I (nD d6B (nD b9Z (jU 1 [a0d,d5C,e5T,(jP 3),d0i,c3n,a0u,a0l,a0o,a0r,a0v,a0z] [] a0J))) (nD b9Z (jU 1 [a0d,d5C,e5T,a0g,d0i,c3n,a0u,a0l,a0o,a0r,a0v,a0z] [] a0J))))))))))) (jU 0 [a0d,a0k,a0f,a0g,a4P,a0u,a0l,a0o,a0r,a0v,a0z] [] a0J)) (.ite (.eq a0p d0c) (.ite (.lt a0t a0o) (nD e7t (lO ff (.ea 0 d0c 5 3) b6e (nD e2f (nD e7t (lO ff (.ea 0 d0c 5 2) b6e (nD e0J (nD e7t (lO ff (.ea 0 d0c 5 4) b6e (.ite c5I (nD d6B (nD b9Z (jU 1 [a0d,d5C,e5T,(jP 3),d0c,c3n,a0u,a0l,a0o,a0r,a0v,a0z] [] a0J))) (nD b9Z (jU 1 [a0d,d5C,e5T,a0g,d0c,c3n,a0u,a0l,a0o,a0r,a0v,a0z] [] a0J))))))))))) (jU 0 [a0d,a0k,a0f,a0g,d0i,a0u,a0l,a0o,a0r,a0v,a0z] [] a0J)) (.ite (.eq a0p d1O) (.ite (.lt a0t a0l) (nD e7h (lO ff (.ea 0 d1O 5 3) b6e (nD e2f (nD e7h (lO ff (.ea 0 d1O 5 2) b6e (nD e0J (nD e7h (lO ff (.ea 0 d1O 5 4) b6e (.ite c5I (nD d6B (nD b9Z (jU 1 [a0d,d5C,e5T,(jP 3),d1O,c3n,a0u,a0l,a0o,a0r,a0v,a0z] [] a0J))) (nD b9Z (jU 1 [a0d,d5C,e5T,a0g,d1O,c3n,a0u,a0l,a0o,a0r,a0v,a0z] [] a0J))))))))))) (jU 0 [a0d,a0k,a0f,a0g,d0c,a0u,a0l,a0o,a0r,a0v,a0z] [] a0J)) (.ite d5X (.ite (.lt a0t a0u) (nD e0W (lO ff (.ea 0 a0q 5 3) b6e (nD e2f (nD e0W (lO ff (.ea 0 a0q 5 2) b6e (nD e0J (nD e0W (lO ff (.ea 0 a0q 5 4) b6e (.ite c5I (nD d6B (nD b9Z (jU 1 [a0d,d5C,e5T,(jP 3),a0q,c3n,a0u,a0l,a0o,a0r,a0v,a0z] [] a0J))) (nD b9Z (jU 1 [a0d,d5C,e5T,a0g,a0q,c3n,a0u,a0l,a0o,a0r,a0v,a0z] [] a0J))))))))))) (jU 0 [a0d,a0k,a0f,a0g,d1O,a0u,a0l,a0o,a0r,a0v,a0z] [] a0J)) .stuck))))))
def a2q:Qq:=⟨[(.sh (.one .val)),(.sh (.one jD)),(.sh (.agg [jD,jD,jD,jD,jD,jD]))],a7b,[a3r,a6L],nO,nO⟩
def c7r:List Cfg:=[{todo:=[(.code (tfR 7 116)),(.inLoop (tfR 7 116)),(.inBlock 0),(.code [tt,tt,tt,tt])],sl:=[(.va 0),(jA 0),(.junk 0),.undef,.undef,(.ptr 0 0),(.junk 1),(.junk 2),(.junk 3),(jA 1),(jA 2),(jA 3),(jA 4)]++jkR 4 45++[.undef,.undef,.undef],H:=[(.cells e8E 51 ff)],ni:=11,nb:=0,nv:=1,nj:=49},
 {todo:=[(.code (tfR 13 7460)),(.inLoop (tfR 13 7460)),(.inBlock 2),(.inBlock 1),(.code (tfR 9 467)),(.inLoop (tfR 7 116)),(.inBlock 0),(.code [tt,tt,tt,tt])],sl:=[(.va 0),(jA 0),(.junk 0),.undef,.undef,(.ptr 0 0),(.junk 1),(.junk 2),(.junk 3),(jA 1),(jA 2),(jA 3),(jA 4),(jA 5)]++jkR 4 44++[.undef,.undef,.undef],H:=[(.cells [a2h,a2k,a2s,a2f,a2r,c3d] 51 ff)],ni:=12,nb:=0,nv:=1,nj:=48}]
def d0w:=okg 50 a2q c7r func50 call50 ff ff [(tfR 7 116),(tfR 13 7460)]
def b8x:PT:=(cA 88 [a1L,e6k,a1j,a0Q] [] a0W (.ite d6s (.ret tt (.tup [.nilS,a2k]) []) (cA 89 a0J [] a3x (nD a3Z (jU 0 [a0d,a0P,a0q,a0k,a0f,a0g,a0p,a0t,a0u] [] [a1f,a0Q])))))
def a8K:PT:=(.ite c0i (nD b6k (lO ff (.ea 1 a0f 6 0) a2W (cA 90 a0J [] a2n (.ite e0U (nD e5Y (lO ff d5Q a2W (cA 91 [b6g,e8x,e8l,d0j] [] a1A (.ite a3E d6c e8C)))) (.ite e2D (nD e5Y (lO ff d5Q a2W (cA 92 [b6g,e8x,e8l,d0j] [] a2n (nD e5Y (.storeM d5Q [(jA 27),(jA 28),(jA 29),(jA 30),(jA 31),(jA 32)] d6c))))) e8C))))) (.ret tt (.tup [a1j,a1h]) []))
def a5a:Qq:=⟨[(.sh (.one jD)),(.sh (.agg [jD,jD,jD,jD,jD,jD])),(.sh (.one .val)),(.sh (.one .val))],b8x,[a8K],nO,nO⟩
def d3p:List Cfg:=[{todo:=[(.code (tfR 7 116)),(.inLoop (tfR 7 116)),(.inBlock 0),(.code [tt,tt,tt,tt])],sl:=[(jA 0),(.junk 0),(.junk 1),(.junk 2),.undef,(.ptr 0 0),.undef,.undef,(.junk 3),(.junk 4),(.junk 5),(.va 0)]++jkR 6 10++[.undef,(.junk 16),(.junk 17),(.va 1),(jA 1),(jA 2)]++jkR 18 32++[.undef],H:=[(.cells d1U 51 ff)],ni:=9,nb:=0,nv:=2,nj:=50}]
def d4W:=okg 58 a5a d3p func58 call58 tt tt [(tfR 7 116)]
def b4S:PT:=(nD b0j (.ite (.lt d1F b1d) d6w (nD b0j (jU 0 [b1d,a0q] [] [a1d,a1j,a0Q,a1f]))))
def a7z:PT:=(.ite a1p (nD a2H (lO ff (.ea 0 a0k 3 0) d6o (.ite c5C e7J (nD a3Z (.ite (.le a0P a0f) e7J (.ite e2s b6o (.ite b0X b6o (.ite (.lt a0p d1O) b6o (nD b6k (lO tt (.ea 1 a0f 5 1) b6e (.ite (.lt a0t a0p) b6o (.cut 0 nO (sm (.a 1)) 3 (nD e1r (jU 1 [a0d,a0k,a0f,a0P,a0g,a0p,a0t,a3W,a0q] [(.le a0P a0f),b0X,(.lt a0p d1O),(.lt a0t a0p)] [a1j,a0Q,a1i,a1f,a1d])))))))))))))) a8l)
def a7u:PT:=(.ite (.lt a0o a0l) (nD (treeI a0o a2Q) (lO ff (.ea 2 a0o 3 0) d6o (.ite (.eq a0r a0f) d6h (nD (treeB (jP 8)) (jU 1 [a0d,a0k,a0f,a0g,a0p,a0t,a0u,a0l,(jP 8)] d6y e2h))))) (nD a1M (jU 0 c0g [] [a1j,a0Q,a1d,a1i])))
def a3s:Qq:=⟨[(.sh (.agg [.val,.val,.val,.val]))],b4S,[a7z,a7u],nO,nO⟩
def c9w:List Cfg:=[{todo:=[(.code (tfR 6 52)),(.inLoop (tfR 6 52)),(.inBlock 0),(.code [tt,tt,tt])],sl:=[(.junk 0),(.ptr 0 0),(.junk 1),(.junk 2),(.junk 3),.undef]++jkR 4 6++[(.va 0),(jA 0),(jA 1)]++jkR 10 56,H:=[(.cells [a0Q,a1f,a1d,a1j] 27 ff)],ni:=2,nb:=0,nv:=4,nj:=66},
 {todo:=[(.code (tfR 16 54076)),(.inLoop (tfR 16 54076)),(.inBlock 2),(.inBlock 1),(.code (tfR 9 423)),(.inLoop (tfR 6 52)),(.inBlock 0),(.code [tt,tt,tt])],sl:=[(.junk 0),(.ptr 0 0),(.junk 1),(.junk 2),(.ptr 1 0),.undef]++jkR 3 6++[(.va 0),(jA 0),(jA 1)]++jkR 9 8++[(.ptr 1 0),(jA 2),(.ptr 0 0),(.va 1),(jA 3),(.bool (.a 0))]++jkR 17 5++[(.ptr 1 1),(jA 4),(.bool (.a 1)),(.junk 22),(.junk 23),(.ptr 1 2),(jA 5),(.bool (.a 2)),(.junk 24),(.junk 25),(.ptr 1 2),(jA 5),(.ptr 0 0),(.va 1),(.ptr 1 0),(jA 2),(.ea 1 (.a 2) 5 0),(.ea 1 (.a 2) 5 1),(jA 6),(.bool (.a 3))]++jkR 26 4++[(.va 2),(jA 7),(jA 8)]++jkR 30 10,H:=[(.cells [a0Q,a1d,a1i,a1j] 27 ff),(.cells f8r 91 ff)],ni:=9,nb:=4,nv:=5,nj:=40}]
def d2j:=okg 66 a3s c9w func66 call66 ff ff [(tfR 6 52),(tfR 16 54076)]
def b3h:PT:=(cA 17 c2h [] a0W (.ite a6h c3c (cA 111 [(.agg [a2Y,a2u,a2h,a2k,a2s,a2f])] [] a1A (.ite a4h c3c (jU 0 e1w [] [])))))
def a6F:PT:=(.ite e6X (.ite d6F (.ite (.lt a0q a0N) (cA 112 [e6T,a2r] [] a0W (jU 0 [d1F,a0k,a0f,a0g,a0p,a0t,a0u,a0l,a0o,a0r,b9f,a0z,a0D,a0y,a0B,a0C,a0N] [] [])) (jU 0 [d1F,a0k,a0f,a0g,a0p,a0t,a0u,a0l,a0o,a0r,a0v,a0z,a0D,a0y,a0B,a0C,a0N] [] [])) (.ite e2t (.ite (.lt a0q a0C) (cA 112 [e6T,a2f] [] a0W (jU 0 [d0U,a0k,a0f,a0g,a0p,a0t,a0u,a0l,a0o,b9f,a0v,a0z,a0D,a0y,a0B,a0C,a0N] [] [])) (jU 0 [d0U,a0k,a0f,a0g,a0p,a0t,a0u,a0l,a0o,a0r,a0v,a0z,a0D,a0y,a0B,a0C,a0N] [] [])) (.ite e2D (.ite (.lt a0q a0B) (cA 112 [e6T,a2s] [] a0W (jU 0 [a4P,a0k,a0f,a0g,a0p,a0t,a0u,a0l,b9f,a0r,a0v,a0z,a0D,a0y,a0B,a0C,a0N] [] [])) (jU 0 [a4P,a0k,a0f,a0g,a0p,a0t,a0u,a0l,a0o,a0r,a0v,a0z,a0D,a0y,a0B,a0C,a0N] [] [])) (.ite e0U (.ite (.lt a0q a0y) (cA 112 [e6T,a2k] [] a0W (jU 0 [d0i,a0k,a0f,a0g,a0p,a0t,a0u,b9f,a0o,a0r,a0v,a0z,a0D,a0y,a0B,a0C,a0N] [] [])) (jU 0 [d0i,a0k,a0f,a0g,a0p,a0t,a0u,a0l,a0o,a0r,a0v,a0z,a0D,a0y,a0B,a0C,a0N] [] [])) (.ite e2c (.ite (.lt a0q a0D) (cA 112 [e6T,a2h] [] a0W (jU 0 [d0c,a0k,a0f,a0g,a0p,a0t,b9f,a0l,a0o,a0r,a0v,a0z,a0D,a0y,a0B,a0C,a0N] [] [])) (jU 0 [d0c,a0k,a0f,a0g,a0p,a0t,a0u,a0l,a0o,a0r,a0v,a0z,a0D,a0y,a0B,a0C,a0N] [] [])) (.ite e1f (.ite (.lt a0q a0z) (cA 112 [e6T,a2u] [] a0W (jU 0 [d1O,a0k,a0f,a0g,a0p,b9f,a0u,a0l,a0o,a0r,a0v,a0z,a0D,a0y,a0B,a0C,a0N] [] [])) (jU 0 [d1O,a0k,a0f,a0g,a0p,a0t,a0u,a0l,a0o,a0r,a0v,a0z,a0D,a0y,a0B,a0C,a0N] [] [])) .stuck)))))) (cA 111 [(.agg e8E)] [] a1A (.ite a4h c3c (.ret ff (.tup [(.agg e8E),a1h]) []))))
def a3B:Qq:=⟨[(.sh (.agg [jD,jD,jD,jD])),(.sh (.agg [jD,jD,jD,jD,jD,jD])),(.sh (.agg [jD,jD,jD,jD,jD,jD]))],b3h,[a6F],nO,nO⟩
def c7V:List Cfg:=[{todo:=[(.code (tfR 6 52)),(.inLoop (tfR 6 52)),(.inBlock 0),(.code [tt,tt,tt])],sl:=[(.junk 0),(.junk 1),(.junk 2),(.ptr 0 0),(.ptr 1 0),(.ptr 2 0),(.ptr 3 0),(.junk 3),(jA 0)]++jkR 4 8++[.undef]++jkR 12 15++udR 5,H:=[(.cells e0S 29 ff),(.cells e8E 38 ff),(.cells e0j 51 ff),(.cells a3z 38 ff)],ni:=17,nb:=0,nv:=0,nj:=27}]
def d1l:=okg 74 a3B c7V func74 call74 ff ff [(tfR 6 52)]
def b0M:PT:=(cA 119 a7K [] a0W (cA 120 [a0E,a1L,a1i] [] a0W (.ret ff (.bool (.le a0y a0B)) [])))
def b0U:Qq:=⟨[(.sh (.agg [.val,.val,.val,.val,jD,.val])),(.sh (.agg [jD,jD,jD,jD,jD,jD,jD,jD,jD,jD,jD,jD]))],b0M,[],nO,nO⟩
def c6q:=okg 82 b0U [] func82 call82 ff ff
def c9O:PT:=(cA 94 a0J [] a2n e5N)
def c9a:Qq:=⟨[(.sh (.one .val))],c9O,[],nO,nO⟩
def e4u:=okg 90 c9a [] func90 call90 tt ff
def c2j:PT:=c0k
def a6V:PT:=(.ite a1p (nD c7d (lO ff (.ea 1 a0k 5 0) d9m c2I)) e7u)
def a8q:Qq:=⟨[(.sh (.one .val)),(.sh (.one .val))],c2j,[a6V],nO,nO⟩
def d6T:List Cfg:=[{todo:=[(.code (tfR 5 20)),(.inLoop (tfR 5 20)),(.inBlock 0),(.code [tt,tt])],sl:=[(.junk 0),(.va 0),.undef,.undef]++jkR 1 4++[(.va 1),(jA 0),(jA 1)]++jkR 5 8++[.undef,(.junk 13)],H:=[],ni:=2,nb:=0,nv:=2,nj:=14}]
def d9H:=okg 98 a8q d6T func98 call98 ff ff [(tfR 5 20)]
def b1L:PT:=(cA 50 [a1j,a1h,e1K] [] [a7e,a7e,a7e] (.ret ff a2h []))
def b1N:Qq:=⟨[(.sh (.agg [.val,.val,.val,.val])),(.sh (.agg [jD,jD,jD,jD,jD,jD]))],b1L,[],nO,nO⟩
def c8b:=okg 106 b1N [] func106 call106 ff ff
def b4r:PT :=
 (nD (.is 3 0)
 (nD (.lt (.l 0) (.stl 0))
 (cA 113 [(.int .u8 (.sat 0 (.l 0)))] [] [(.one .bool)]
 (.ite (.a 0)
 (jU 0 [(.l 1)] [] [(.va 0)])
 (nD (.is 3 0)
 (nD (.lt (.l 0) (.stl 0))
 (cA 128 [(.int .u8 (.sat 0 (.l 0)))] [] [(.one .bool)]
 (.ite (.a 1)
  (jU 1 [(.l 1)] [] [(.va 0)])
  (nD (.is 3 0)
  (nD (.lt (.l 0) (.stl 0))
  (cA 129 [(.int .u8 (.sat 0 (.l 0)))] [] [(.one .bool)]
  (.ite (.a 2)
  (.scut 0 nO (sm (.l 1))
  (.ret ff (.tup [(.agg [(jE 3),(.va 1),(jE 0),(jE 0)]),(jE 0)]) []))
  (.ret ff (.tup [(.agg [(jE 0),(.str []),(jE 0),(jE 0)]),(jE 2)]) [])))))))))))))
def a4e:PT :=
 (nD (.is 3 0)
 (.ite (.lt (.a 0) (.stl 0))
 (nD (.is 3 0)
 (nD (treeI (.a 0) (.stl 0))
 (cA 113 [(.int .u8 (.sat 0 (.a 0)))] [] [(.one .bool)]
 (.ite (.a 0)
  (nD (treeB (jP 0))
  (jU 0 [(jP 0)] [] [(.va 0)]))
  (nD (.is 3 0)
  (nD (treeI (.a 0) (.stl 0))
  (cA 128 [(.int .u8 (.sat 0 (.a 0)))] [] [(.one .bool)]
  (.ite (.a 1)
  (nD (treeB (jP 0))
  (jU 0 [(jP 0)] [] [(.va 0)]))
  (nD (.is 3 0)
  (nD (treeI (.a 0) (.stl 0))
  (.ite (.eq (.sat 0 (.a 0)) (.l 95))
   (nD (treeB (jP 0))
   (jU 0 [(jP 0)] [] [(.va 0)]))
   (.ite (.lt (.l 12) (.a 0))
   (.ret ff (.tup [(.agg [(jE 0),(.str []),(jE 0),(jE 0)]),(jE 3)]) [])
   (.scut 0 nO (sm (.a 0))
   (.ret ff (.tup [(.agg [(jE 1),(.va 1),(jE 0),(jE 0)]),(jE 0)]) []))))))))))))))
 (.ite (.lt (.l 12) (.a 0))
  (.ret ff (.tup [(.agg [(jE 0),(.str []),(jE 0),(jE 0)]),(jE 3)]) [])
  (.scut 0 nO (sm (.a 0))
  (.ret ff (.tup [(.agg [(jE 1),(.va 1),(jE 0),(jE 0)]),(jE 0)]) [])))))
def d3a:PT :=
 (nD (.is 3 0)
 (.ite (.lt (.a 0) (.stl 0))
 (nD (.is 3 0)
 (nD (treeI (.a 0) (.stl 0))
 (cA 128 [(.int .u8 (.sat 0 (.a 0)))] [] [(.one .bool)]
 (.ite (.a 0)
  (nD (treeB (jP 0))
  (jU 1 [(jP 0)] [] [(.va 0)]))
  (.ite (.lt (.l 1) (.a 0))
  (nD (.is 3 0)
  (nD (.lt (.l 0) (.stl 0))
  (.ite (.eq (.sat 0 (.l 0)) (.l 48))
   (.ret ff (.tup [(.agg [(jE 0),(.str []),(jE 0),(jE 0)]),(jE 2)]) [])
   (.ite (.lt (.l 9) (.a 0))
   (.ret ff (.tup [(.agg [(jE 0),(.str []),(jE 0),(jE 0)]),(jE 4)]) [])
   (jU 2 [(.a 0),(.l 0),(.l 0)] [] [(.va 0)])))))
  (.ite (.lt (.l 9) (.a 0))
   (.ret ff (.tup [(.agg [(jE 0),(.str []),(jE 0),(jE 0)]),(jE 4)]) [])
   (jU 2 [(.a 0),(.l 0),(.l 0)] [] [(.va 0)])))))))
 (.ite (.lt (.l 1) (.a 0))
  (nD (.is 3 0)
  (nD (.lt (.l 0) (.stl 0))
  (.ite (.eq (.sat 0 (.l 0)) (.l 48))
  (.ret ff (.tup [(.agg [(jE 0),(.str []),(jE 0),(jE 0)]),(jE 2)]) [])
  (.ite (.lt (.l 9) (.a 0))
   (.ret ff (.tup [(.agg [(jE 0),(.str []),(jE 0),(jE 0)]),(jE 4)]) [])
   (jU 2 [(.a 0),(.l 0),(.l 0)] [] [(.va 0)])))))
  (.ite (.lt (.l 9) (.a 0))
  (.ret ff (.tup [(.agg [(jE 0),(.str []),(jE 0),(jE 0)]),(jE 4)]) [])
  (jU 2 [(.a 0),(.l 0),(.l 0)] [] [(.va 0)])))))
def d3x:PT:=(.ite (.lt a0f a0d) (nD (treeB (.mul a0k (.l 10))) (nD b3Z (nD (treeI a0f c0v) (nD (.and (.le a0q d0s) (.le d0s (.l 255))) (nD (treeB d0s) (nD (treeB d6a) (nD a0K (jU 2 [a0d,d6a,(jP 2)] [] a0J)))))))) (.scut 0 nO (sm (.a 0)) (.ret ff (.tup [(.agg [(jE 2),a0Q,a1P,a1h]),a1h]) [])))
def a6j:Qq:=⟨[(.sh (.one .val))],b4r,[a4e,d3a,d3x],nO,nO⟩
def c8X:List Cfg:=[{todo:=[(.code (tfR 9 400)),(.inLoop (tfR 9 400)),(.inBlock 1),(.code (tfR 7 101)),(.inBlock 0),(.code [tt,tt,tt])],sl:=[(.va 0),.undef,(.ptr 0 0),(.junk 0),(jA 0),.undef,.undef]++jkR 1 28++udR 60,H:=[(.cells [(jE 0),(.str []),(jE 0),(jE 0)] 153 ff)],ni:=1,nb:=0,nv:=1,nj:=29},
 {todo:=[(.code (tfR 11 1648)),(.inLoop (tfR 11 1648)),(.inBlock 3),(.code (tfR 9 413)),(.inBlock 0),(.code [tt,tt,tt])],sl:=[(.va 0),.undef,(.ptr 0 0),(.junk 0),(jA 0),.undef,.undef]++jkR 1 4++udR 31++jkR 5 16++udR 37,H:=[(.cells [(jE 0),(.str []),(jE 0),(jE 0)] 153 ff)],ni:=1,nb:=0,nv:=1,nj:=21},
 {todo:=[(.code (tfR 16 52980)),(.inLoop (tfR 16 52980)),(.inBlock 5),(.code (tfR 13 6623)),(.inBlock 0),(.code [tt,tt,tt])],sl:=[(.va 0),.undef,(.ptr 0 0),(.junk 0),(jA 0),(jA 1),(jA 2)]++jkR 1 4++udR 31++jkR 5 23++[.undef,(.junk 28),(.junk 29),.undef]++jkR 30 13++udR 13,H:=[(.cells [(jE 0),(.str []),(jE 0),(jE 0)] 153 ff)],ni:=3,nb:=0,nv:=1,nj:=43}]
def d3e:=okg 114 a6j c8X func114 call114 ff ff [(tfR 9 400),(tfR 11 1648),(tfR 16 52980)]
def b2q:PT:=(lO ff d6p b6e (nD (treeB (.add a0d a0k)) (lO ff (.pa 0 1) b6e (nD (treeB (.mul a0d a0f)) (nD (treeB f8t) (nD (treeB (.tdiv f8t (.l 100))) (nD (treeB f8v) (.ret tt (.int .i64 f8v) []))))))))
def b2W:Qq:=⟨[(.sh (.one jD)),.ptr],b2q,[],nO,nO⟩
def c8I:=okg 122 b2W [] func122 call122 tt tt
def c4B:PT:=(.ret ff (.agg [(.int .i64 (.mn a0d a0u)),(.int .i64 (.mn a0k a0l)),(.int .i64 (.mn a0f a0o)),(.int .i64 (.mn a0g a0r)),(.int .i64 (.mn a0p a0v)),(.int .i64 (.mn a0t a0z))]) [])
def c4r:Qq:=⟨[(.sh (.agg [jD,jD,jD,jD,jD,jD])),(.sh (.agg [jD,jD,jD,jD,jD,jD]))],c4B,[],nO,nO⟩
def e1Y:=okg 130 c4r [] func130 call130 ff ff
def b5z:PT:=(.ret ff a1N [])
def b5O:Qq:=⟨[(.sh (.agg [.val,jD,jD,jD,jD]))],b5z,[],nO,nO⟩
def d3Q:=okg 138 b5O [] func138 call138 ff ff
def a9s(sz:Nat):List PV->List MO->Option (PV×List MO)
 | [.nilS],σ=>sm (.nilS,σ)
 | [.sl n rows],σ=>if n=sz/\rows.length<=1000000 then sm (.sl n rows,σ) else nO
 | _,_=>nO
theorem f4W{s:Hp}{B:Inf}{n:Nat}{v:Value}(h:Rep s B .nilS v):Rep s B (.sl n []) v:=by
 simp only[Rep] at h ⊢;subst h;exact⟨[],⟨by simp,nO,0,rfl,Q4 _,by simp⟩,rfl,by simp⟩
theorem d5R{P:Program}{f:Nat}{aa:List PV}{σ:List MO}{n:Nat}(h:CtD P f aa σ (fun r σ'=>(r=.nilS\/r=.sl n [])/\σ'=σ)):CtD P f aa σ (fun r σ'=>r=.sl n []/\σ'=σ):=by
 refine⟨h.1,fun s m vs a b c w hs hm=>(h.2 s m vs a b c w hs hm).mono ?_⟩;rintro e w' ⟨v,s',m',e1,e2,e3,e4,e5,e6,e7,r',σ'',⟨hr,rfl⟩,hq⟩;refine⟨v,s',m',e1,e2,e3,e4,e5,e6,e7,.sl n [],_,⟨rfl,rfl⟩,hq.1,?_,hq.2.2⟩;rcases hr with rfl|rfl
 ·exact f4W hq.2.1
 ·exact hq.2.1
theorem a4O:SysIs Qr 67 a7Z:=d0D (c:=(cg [] [] [] ff ff ff tt)) (c5x _ _ _ _ _ _ _ _ _) Tryz.func67 Tryz.call67 (by kernel_rfl) b3c a7Z 5000 rfl (by kernel_rfl) (by kernel_rfl)
def a8c:Qq:=⟨[],.stuck,[],sm (a9s 5),nO⟩
theorem b3d:SysOk Qr 67 a8c where
 ct Φ hΦ n aa σ r σ' hh:=by
  change a9s 5 aa σ=sm (r,σ') at hh;unfold a9s at hh;split at hh
  ·simp only[Q0,Q1] at hh
   obtain⟨rfl,rfl⟩:=hh;refine Qv (a4O.dm Φ hΦ 1 _ _ _ ⟨([],[],[.nilS]),rfl,?_⟩);show Qs _ a1Y _ _;unfold a1Y;refine b0d rfl rfl (c5n rfl rfl ⟨.nilS,rfl,(.nilS,_),?_,rfl,rfl⟩);simp[a0n]
  ·rename_i σ0 n rows
   split at hh
   case isFalse=>cases hh
   rename_i hc;obtain⟨rfl,hc⟩:=hc;simp only[Q0,Q1] at hh;obtain⟨rfl,rfl⟩:=hh;cases rows with
   | nil =>
    refine Qv (d5R (a4O.dm Φ hΦ 1 _ _ _ ⟨([],[],[.sl 5 []]),rfl,?_⟩));show Qs _ a1Y _ _;unfold a1Y;refine b0d rfl rfl ?_;simp only[Qs];rw[if_neg (by simp[Qy,PEnv.at,Qz])];refine⟨⟨.nilS,rfl,(.nilS,_),by simp[a0n],.inl rfl,rfl⟩,[],rfl,[],rfl,?_⟩;rw[Qt (by simp)];refine⟨[],by simp[c8T,Qu],[],by simp[a1O,Qu],?_⟩;rw[Qt (by simp)];exact⟨.sl 5 [],rfl,(.sl 5 [],_),by simp[a0n],.inr rfl,rfl⟩
   | cons x rows =>
    refine Qv (a4O.dm Φ hΦ 1 _ _ _ ⟨([],[],[.sl 5 (x::rows)]),rfl,?_⟩);show Qs _ a1Y _ _;unfold a1Y;refine b0d rfl rfl (c5r rfl rfl ?_);simp only[Qs];refine⟨[],rfl,[],rfl,?_⟩;rw[Qt (by simp)];refine⟨[],by simp[c8T,Qu],x::rows,by simp[a1O,Qu],?_⟩;rw[Qt (by simpa using hc)];exact⟨.sl 5 (x::rows),rfl,(.sl 5 (x::rows),_),by simp[a0n],rfl,rfl⟩
  ·cases hh
theorem a5q:SysIs Qr 68 a8L:=d0D (c:=(cg [] [] [] ff ff ff tt)) (c5x _ _ _ _ _ _ _ _ _) Tryz.func68 Tryz.call68 (by kernel_rfl) b3T a8L 5000 rfl (by kernel_rfl) (by kernel_rfl)
def a8E:Qq:=⟨[],.stuck,[],sm (a9s 4),nO⟩
theorem b3M:SysOk Qr 68 a8E where
 ct Φ hΦ n aa σ r σ' hh:=by
  change a9s 4 aa σ=sm (r,σ') at hh;unfold a9s at hh;split at hh
  ·simp only[Q0,Q1] at hh
   obtain⟨rfl,rfl⟩:=hh;refine Qv (a5q.dm Φ hΦ 1 _ _ _ ⟨([],[],[.nilS]),rfl,?_⟩);show Qs _ a2l _ _;unfold a2l;refine b0d rfl rfl (c5n rfl rfl ⟨.nilS,rfl,(.nilS,_),?_,rfl,rfl⟩);simp[a0n]
  ·rename_i σ0 n rows
   split at hh
   case isFalse=>cases hh
   rename_i hc;obtain⟨rfl,hc⟩:=hc;simp only[Q0,Q1] at hh;obtain⟨rfl,rfl⟩:=hh;cases rows with
   | nil =>
    refine Qv (d5R (a5q.dm Φ hΦ 1 _ _ _ ⟨([],[],[.sl 4 []]),rfl,?_⟩));show Qs _ a2l _ _;unfold a2l;refine b0d rfl rfl ?_;simp only[Qs];rw[if_neg (by simp[Qy,PEnv.at,Qz])];refine⟨⟨.nilS,rfl,(.nilS,_),by simp[a0n],.inl rfl,rfl⟩,[],rfl,[],rfl,?_⟩;rw[Qt (by simp)];refine⟨[],by simp[c8T,Qu],[],by simp[a1O,Qu],?_⟩;rw[Qt (by simp)];exact⟨.sl 4 [],rfl,(.sl 4 [],_),by simp[a0n],.inr rfl,rfl⟩
   | cons x rows =>
    refine Qv (a5q.dm Φ hΦ 1 _ _ _ ⟨([],[],[.sl 4 (x::rows)]),rfl,?_⟩);show Qs _ a2l _ _;unfold a2l;refine b0d rfl rfl (c5r rfl rfl ?_);simp only[Qs];refine⟨[],rfl,[],rfl,?_⟩;rw[Qt (by simp)];refine⟨[],by simp[c8T,Qu],x::rows,by simp[a1O,Qu],?_⟩;rw[Qt (by simpa using hc)];exact⟨.sl 4 (x::rows),rfl,(.sl 4 (x::rows),_),by simp[a0n],rfl,rfl⟩
  ·cases hh
theorem a6R:SysIs Qr 69 b1t:=d0D (c:=(cg [] [] [] ff ff ff tt)) (c5x _ _ _ _ _ _ _ _ _) Tryz.func69 Tryz.call69 (by kernel_rfl) b8N b1t 5000 rfl (by kernel_rfl) (by kernel_rfl)
def b1g:Qq:=⟨[],.stuck,[],sm (a9s 3),nO⟩
theorem b8R:SysOk Qr 69 b1g where
 ct Φ hΦ n aa σ r σ' hh:=by
  change a9s 3 aa σ=sm (r,σ') at hh;unfold a9s at hh;split at hh
  ·simp only[Q0,Q1] at hh
   obtain⟨rfl,rfl⟩:=hh;refine Qv (a6R.dm Φ hΦ 1 _ _ _ ⟨([],[],[.nilS]),rfl,?_⟩);show Qs _ a2V _ _;unfold a2V;refine b0d rfl rfl (c5n rfl rfl ⟨.nilS,rfl,(.nilS,_),?_,rfl,rfl⟩);simp[a0n]
  ·rename_i σ0 n rows
   split at hh
   case isFalse=>cases hh
   rename_i hc;obtain⟨rfl,hc⟩:=hc;simp only[Q0,Q1] at hh;obtain⟨rfl,rfl⟩:=hh;cases rows with
   | nil =>
    refine Qv (d5R (a6R.dm Φ hΦ 1 _ _ _ ⟨([],[],[.sl 3 []]),rfl,?_⟩));show Qs _ a2V _ _;unfold a2V;refine b0d rfl rfl ?_;simp only[Qs];rw[if_neg (by simp[Qy,PEnv.at,Qz])];refine⟨⟨.nilS,rfl,(.nilS,_),by simp[a0n],.inl rfl,rfl⟩,[],rfl,[],rfl,?_⟩;rw[Qt (by simp)];refine⟨[],by simp[c8T,Qu],[],by simp[a1O,Qu],?_⟩;rw[Qt (by simp)];exact⟨.sl 3 [],rfl,(.sl 3 [],_),by simp[a0n],.inr rfl,rfl⟩
   | cons x rows =>
    refine Qv (a6R.dm Φ hΦ 1 _ _ _ ⟨([],[],[.sl 3 (x::rows)]),rfl,?_⟩);show Qs _ a2V _ _;unfold a2V;refine b0d rfl rfl (c5r rfl rfl ?_);simp only[Qs];refine⟨[],rfl,[],rfl,?_⟩;rw[Qt (by simp)];refine⟨[],by simp[c8T,Qu],x::rows,by simp[a1O,Qu],?_⟩;rw[Qt (by simpa using hc)];exact⟨.sl 3 (x::rows),rfl,(.sl 3 (x::rows),_),by simp[a0n],rfl,rfl⟩
  ·cases hh
theorem a5L:SysIs Qr 70 a9r:=d0D (c:=(cg [] [] [] ff ff ff tt)) (c5x _ _ _ _ _ _ _ _ _) Tryz.func70 Tryz.call70 (by kernel_rfl) b5e a9r 5000 rfl (by kernel_rfl) (by kernel_rfl)
def a9u:Qq:=⟨[],.stuck,[],sm (a9s 3),nO⟩
theorem b5f:SysOk Qr 70 a9u where
 ct Φ hΦ n aa σ r σ' hh:=by
  change a9s 3 aa σ=sm (r,σ') at hh;unfold a9s at hh;split at hh
  ·simp only[Q0,Q1] at hh
   obtain⟨rfl,rfl⟩:=hh;refine Qv (a5L.dm Φ hΦ 1 _ _ _ ⟨([],[],[.nilS]),rfl,?_⟩);show Qs _ a2y _ _;unfold a2y;refine b0d rfl rfl (c5n rfl rfl ⟨.nilS,rfl,(.nilS,_),?_,rfl,rfl⟩);simp[a0n]
  ·rename_i σ0 n rows
   split at hh
   case isFalse=>cases hh
   rename_i hc;obtain⟨rfl,hc⟩:=hc;simp only[Q0,Q1] at hh;obtain⟨rfl,rfl⟩:=hh;cases rows with
   | nil =>
    refine Qv (d5R (a5L.dm Φ hΦ 1 _ _ _ ⟨([],[],[.sl 3 []]),rfl,?_⟩));show Qs _ a2y _ _;unfold a2y;refine b0d rfl rfl ?_;simp only[Qs];rw[if_neg (by simp[Qy,PEnv.at,Qz])];refine⟨⟨.nilS,rfl,(.nilS,_),by simp[a0n],.inl rfl,rfl⟩,[],rfl,[],rfl,?_⟩;rw[Qt (by simp)];refine⟨[],by simp[c8T,Qu],[],by simp[a1O,Qu],?_⟩;rw[Qt (by simp)];exact⟨.sl 3 [],rfl,(.sl 3 [],_),by simp[a0n],.inr rfl,rfl⟩
   | cons x rows =>
    refine Qv (a5L.dm Φ hΦ 1 _ _ _ ⟨([],[],[.sl 3 (x::rows)]),rfl,?_⟩);show Qs _ a2y _ _;unfold a2y;refine b0d rfl rfl (c5r rfl rfl ?_);simp only[Qs];refine⟨[],rfl,[],rfl,?_⟩;rw[Qt (by simp)];refine⟨[],by simp[c8T,Qu],x::rows,by simp[a1O,Qu],?_⟩;rw[Qt (by simpa using hc)];exact⟨.sl 3 (x::rows),rfl,(.sl 3 (x::rows),_),by simp[a0n],rfl,rfl⟩
  ·cases hh
def a5h:Qq:=a8c
theorem b3A:SysOk Qr 67 a5h:=b3d
def a5z:Qq:=a8E
theorem b4C:SysOk Qr 68 a5z:=b3M
def a7w:Qq:=b1g
theorem b9x:SysOk Qr 69 a7w:=b8R
def a6a:Qq:=a9u
theorem b5p:SysOk Qr 70 a6a:=b5f
open Go.Shelf Go.RowKit Go.Lib Go.Sort Go.Sx Go.Proofs
def f0b:List Value:=[.int .i64 0,.int .i64 0,.int .i64 0,.int .i64 0,.int .i64 0,.int .i64 0]
theorem f6j:(Qr.info? 51).map (fun i=>(i.zero,i.size,i.bytes))=sm (sm (.agg f0b.toArray),6,48):=by kernel_rfl
set_option maxHeartbeats 4000000 in
set_option maxRecDepth 1000000 in
theorem e4Y:d7o Qr 89 51 6:=by
 intro w b off n c news hpos hn6 hl hc h1;obtain⟨i0,hi0,hz0,hz1,hz2⟩:=info_parts f6j;have mixed:Qr.follows Departure.mixedOrders=tt:=by kernel_rfl
 have hzs:(Value.agg f0b.toArray).cells.size=6:=by kernel_rfl
 have q22:∀(w:World) (a:Option Addr) (n c n' c':Nat),(binOp .eql 39 (.slice a n c) (.slice nO n' c')).run Qr w=.ok (.bool a.isNone) w:=fun w a n c n' c'=>Lib.run_eql_slice_nil w _ _ a n c n' c' QA
 have u22:∀w,Sem.run Qr (underlying 39) w=.ok (TypeDesc.slice 51) w:=run_underlying QA;have A:Aside (∀j u,news[j]?=sm u->w.cell? ⟨b,off+j,nO⟩=sm u):=hc;clear hc
 go_enter Tryz.func89,Tryz.ntmps89
 go_wp2_with (at_builtin;refine wpList_append_own _ rfl _ _ 39 rfl w.heap.size 51 i0 (Value.agg f0b.toArray) 6 48 QA hi0 hz0 hz1 hz2 hzs (by omega) _ _ _ rfl (World.ownsRow_made w #[] 0 (Q4 _) (Nat.zero_le _) (by simp)) ⟨b,off,nO⟩ n c news rfl ?qc1 ?qc2 ?qc3 ?qc4 ?qc5 ?qc6 ?_)
 case qc1=>exact hl
 case qc2 =>
  intro j u hj;rw[Addr.add_lit];exact Lib.cell?_alloc_some _ (A.out j u hj)
 case qc3=>exact h1
 case qc4=>rw[Q2];show n<=9223372036854775807;omega
 case qc5=>rw[Q2];omega
 case qc6=>simp
 intro v' w1 hown hgrow hnil
 go_wp2
 go_ret
 refine⟨v',rfl,by simpa using hown,?_⟩;exact((Below.refl _ w).alloc (Q4 _) _).grown hgrow (by simp) (by intro k hk;simp[Value.ownBlock] at hk;omega)
def a3m:Qq:=⟨[],.stuck,[],sm (d9v 51 6),nO⟩
theorem b4q:SysOk Qr 89 a3m where
 ct _ _ _:=f0Y e4Y Tryz.call89
def z6:List PV:=[.int .i64 0,.int .i64 0,.int .i64 0,.int .i64 0,.int .i64 0,.int .i64 0]
def d4m:List PV->List MO->Option (PV×List MO)
 | [.ref h 0],σ=>match σ[h]? with
  | some (.cells [c0,c1,c2,c3,c4,c5,c6,c7,c8,c9,c10,c11,c12,c13,c14,_,_,.msl hd o n cp sz,c18] T) =>
   if n<=1000000/\σ.all (MO.low σ.length)=tt then
    sm (.tup [],σ.set h (.cells [c0,c1,c2,c3,c4,c5,c6,c7,c8,c9,c10,c11,c12,c13,c14,.msl σ.length 0 n n 6,.msl (σ.length+1) 0 n n 1,.msl hd o n cp sz,c18] T)++[.cells (Q3 n z6).flatten 51,.cells (Q3 n [PV.bool ff]).flatten 4]) else nO
  | _=>nO
 | _,_=>nO
theorem f2D:SysIs Qr 31 c1N:=d0D (c:=(cg [] [] [] tt tt ff tt)) (c5x _ _ _ _ _ _ _ _ _) Tryz.func31 Tryz.call31 (by kernel_rfl) c8Z c1N 5000 rfl (by kernel_rfl) (by kernel_rfl)
theorem f5J(k n:Nat):Qw k (Q3 n z6).flatten=tt:=by
 induction n with
 | zero=>rfl
 | succ n ih=>rw[Qk,Qm];simpa[z6,Qw,PV.low] using ih
theorem f5w(k n:Nat):Qw k (Q3 n [PV.bool ff]).flatten=tt:=by
 induction n with
 | zero=>rfl
 | succ n ih=>rw[Qk,Qm];simpa[Qw,PV.low] using ih
section
variable {Φ:Fns}{ρ:PEnv}{R:Res->Prop}{k:PT}
theorem f6d{n:IE}{zero:List SV}{T size bytes:Nat}{z:List PV}{m:Nat}(h1:SV.pvs ρ noOwn zero=sm z)(h2:n.pe ρ=(m:Int))(h3:m<=1000000)(h4:bytes<=100000000)
  (hk:k.wp Φ {ρ with v:=ρ.v++[.msl ρ.m.length 0 m m size],m:=ρ.m++[.cells (Q3 m z).flatten T]} R):(PT.mkM n zero T size bytes k).wp Φ ρ R:=by
 refine⟨z,h1,?_⟩;rw[h2,Qt ⟨by omega,by omega,h4⟩];exact hk
theorem f6e{a:SV}{cs:List SV}{h off T:Nat}{l new:List PV}(h1:a0H ρ a=sm (.obj h off))(h2:ρ.m[h]?=sm (.cells l T))(h3:SV.pvs ρ noOwn cs=sm new)(h4:off+new.length<=l.length)(hk:k.wp Φ {ρ with m:=ρ.m.set h (.cells (a3Y l off new) T)} R):(PT.storeM a cs k).wp Φ ρ R:=by
 simp only[Qs,h1,h2];exact⟨new,h3,by rw[Qt h4];exact hk⟩
end
theorem f1z{k n:Nat}{c0 c1 c2 c3 c4 c5 c6 c7 c8 c9 c10 c11 c12 c13 c14 d c18:PV}{s:Hp}{B B':Inf}{vs:List Value}(hl:Qw k [c0,c1,c2,c3,c4,c5,c6,c7,c8,c9,c10,c11,c12,c13,c14,d,c18]=tt)(hp:B.take k <+: B')(e1:B'[k]?=B[k+1]?)(e2:B'[k+1]?=B[k]?)
  (h:Reps s B [c0,c1,c2,c3,c4,c5,c6,c7,c8,c9,c10,c11,c12,c13,c14,.msl (k+1) 0 n n 6,.msl k 0 n n 1,d,c18] vs):Reps s B' [c0,c1,c2,c3,c4,c5,c6,c7,c8,c9,c10,c11,c12,c13,c14,.msl k 0 n n 6,.msl (k+1) 0 n n 1,d,c18] vs:=by
 have up:∀{p:PV} {v:Value},Rep s B p v->p.low k=tt->Rep s B' p v:=fun h1 h2=>Rep.mono (fun _ _ _ h=>h) (BLe.pre hp) _ _ (PV.low_rep _ _ h1 h2)
 simp only[Qw,Q5] at hl;obtain⟨a0,a1,a2,a3,a4,a5,a6,a7,a8,a9,a10,a11,a12,a13,a14,a15,a16,-⟩:=hl;rw[Reps] at h;obtain⟨v0,_,rfl,b0,h⟩:=h;rw[Reps] at h;obtain⟨v1,_,rfl,b1,h⟩:=h;rw[Reps] at h;obtain⟨v2,_,rfl,b2,h⟩:=h;rw[Reps] at h;obtain⟨v3,_,rfl,b3,h⟩:=h;rw[Reps] at h;obtain⟨v4,_,rfl,b4,h⟩:=h;rw[Reps] at h;obtain⟨v5,_,rfl,b5,h⟩:=h;rw[Reps] at h;obtain⟨v6,_,rfl,b6,h⟩:=h;rw[Reps] at h;obtain⟨v7,_,rfl,b7,h⟩:=h;rw[Reps] at h;obtain⟨v8,_,rfl,b8,h⟩:=h;rw[Reps] at h;obtain⟨v9,_,rfl,b9,h⟩:=h;rw[Reps] at h;obtain⟨v10,_,rfl,b10,h⟩:=h;rw[Reps] at h;obtain⟨v11,_,rfl,b11,h⟩:=h;rw[Reps] at h;obtain⟨v12,_,rfl,b12,h⟩:=h;rw[Reps] at h;obtain⟨v13,_,rfl,b13,h⟩:=h;rw[Reps] at h;obtain⟨v14,_,rfl,b14,h⟩:=h;rw[Reps] at h;obtain⟨v15,_,rfl,m1,h⟩:=h;rw[Reps] at h;obtain⟨v16,_,rfl,m2,h⟩:=h;rw[Reps] at h;obtain⟨v17,_,rfl,b15,h⟩:=h;rw[Reps] at h;obtain⟨v18,_,rfl,b16,h⟩:=h;simp only[Rep] at m1 m2;rw[<- e1] at m1;rw[<- e2] at m2;refine⟨_,_,rfl,up b0 a0,_,_,rfl,up b1 a1,_,_,rfl,up b2 a2,_,_,rfl,up b3 a3,_,_,rfl,up b4 a4,_,_,rfl,up b5 a5,_,_,rfl,up b6 a6,_,_,rfl,up b7 a7,_,_,rfl,up b8 a8,_,_,rfl,up b9 a9,_,_,rfl,up b10 a10,_,_,rfl,up b11 a11,_,_,rfl,up b12 a12,_,_,rfl,up b13 a13,_,_,rfl,up b14 a14,_,_,rfl,?_,_,_,rfl,?_,_,_,rfl,up b15 a15,_,_,rfl,up b16 a16,h⟩
 ·simp only[Rep];exact m1
 ·simp only[Rep];exact m2
def d9P:Qq:=⟨[],.stuck,[],sm d4m,nO⟩
set_option maxHeartbeats 4000000 in
theorem e9H:SysOk Qr 31 d9P where
 ct Φ hΦ nn aa σ r σ' hh:=by
  change d4m aa σ=sm (r,σ') at hh;unfold d4m at hh;split at hh
  case h_2=>cases hh
  rename_i h;split at hh
  case h_2=>cases hh
  rename_i c0 c1 c2 c3 c4 c5 c6 c7 c8 c9 c10 c11 c12 c13 c14 c15 c16 hd o n cp sz c18 T g0;split at hh
  case isFalse=>cases hh
  rename_i hc;obtain⟨hn,hlow⟩:=hc;simp only[Q0,Q1] at hh;obtain⟨rfl,rfl⟩:=hh;have hlt:=(List.getElem?_eq_some_iff.1 g0).1;have hall:Qw σ.length [c0,c1,c2,c3,c4,c5,c6,c7,c8,c9,c10,c11,c12,c13,c14,c15,c16,.msl hd o n cp sz,c18]=tt:=List.all_eq_true.1 hlow _ (List.mem_of_getElem? g0)
  have hall':Qw σ.length [c0,c1,c2,c3,c4,c5,c6,c7,c8,c9,c10,c11,c12,c13,c14,.msl hd o n cp sz,c18]=tt:=by
   simp only[Qw,Q5] at hall ⊢;obtain⟨a0,a1,a2,a3,a4,a5,a6,a7,a8,a9,a10,a11,a12,a13,a14,a15,a16,a17,a18,-⟩:=hall;exact⟨a0,a1,a2,a3,a4,a5,a6,a7,a8,a9,a10,a11,a12,a13,a14,a17,a18,trivial⟩
  have g1:∀x:MO,(σ++[x])[h]?=sm (.cells [c0,c1,c2,c3,c4,c5,c6,c7,c8,c9,c10,c11,c12,c13,c14,c15,c16,.msl hd o n cp sz,c18] T):=fun x=>by rw[Q6 hlt];exact g0
  have g2:∀x y:MO,(σ++[x]++[y])[h]?=sm (.cells [c0,c1,c2,c3,c4,c5,c6,c7,c8,c9,c10,c11,c12,c13,c14,c15,c16,.msl hd o n cp sz,c18] T):=fun x y=>by rw[Q6 (by simp;omega)];exact g1 x
  have g3:∀(x c:MO),((σ++[x]).set h c)[h]?=sm c:=fun x c=>Qn (by simp;omega)
  have g4:∀(x y c:MO),((σ++[x]++[y]).set h c)[h]?=sm c:=fun x y c=>Qn (by simp;omega)
  have g5:∀(x y c:MO),((σ++[x]).set h c++[y])[h]?=sm c:=fun x y c=>by rw[Q6 (by simp;omega)];exact g3 x c
  have s1:∀(x y c d:MO),((σ++[x]++[y]).set h c).set h d=σ.set h d++[x,y]:=fun x y c d=>by rw[List.set_set,Qp,Q7 _ _ hlt];rfl
  have s2:∀(x y c d:MO),((σ++[x]).set h c++[y]).set h d=σ.set h d++[x,y]:=fun x y c d=>by
   rw[Q7 _ _ hlt,Qp,Q7 _ _ (by simpa using hlt),List.set_set];rfl
  refine Qv (CtD.swap (l2:=[c0,c1,c2,c3,c4,c5,c6,c7,c8,c9,c10,c11,c12,c13,c14,.msl (σ.length+1) 0 n n 6,.msl σ.length 0 n n 1,.msl hd o n cp sz,c18]) (f2D.dm Φ hΦ 1 _ _ (fun r' σ'=>r'=.tup []/\(_\/_)) ⟨([],[],[.ref h 0]),rfl,?_⟩) g0 hlow (f5J _ _) (f5w _ _) rfl (fun s B B' vs q1 q2 q3 q4=>f1z hall' q1 q2 q3 q4) ?_ (fun _ _ hq=>hq))
  ·show Qs _ b4K _ _
   unfold b4K
   repeat' first
    | refine b0d rfl rfl ?_
    | refine f4x ?_ ?_
    | ((refine f3P rfl (f5g (by dsimp only;first|exact g0|exact g1 _) rfl) rfl ?_);(dsimp only[QB,Q8,Q9,Qa,a3Y,Qb,Qd,Qe,IE.pe,BE.pe,Nat.reduceAdd];try simp only[Qf,Qg,Qh,Qj,Q2]))
    | (refine f6d rfl rfl hn (by decide) ?_;(dsimp only[QB,Q8,Q9,Qa,a3Y,Qb,Qd,Qe,IE.pe,BE.pe,Nat.reduceAdd];try simp only[Qf,Qg,Qh,Qj,Q2]))
    | ((refine f6e rfl (by dsimp only;first|exact g0|exact g1 _|exact g2 _ _|exact g3 _ _|exact g4 _ _ _|exact g5 _ _ _) rfl (by simp[]) ?_);(dsimp only[QB,Q8,Q9,Qa,a3Y,Qb,Qd,Qe,IE.pe,BE.pe,Nat.reduceAdd];try simp only[Qf,Qg,Qh,Qj,Q2]))
    | (refine f4m rfl ⟨rfl,?_⟩)
   all_goals simp only[s1,s2]
   all_goals first|exact .inl rfl|exact .inr rfl
  ·have:=PV.lows_mono (show σ.length<=σ.length+2 by omega) _ hall'
   simp only[Qw,Q5,PV.low,decide_eq_true_eq] at this ⊢;obtain⟨a0,a1,a2,a3,a4,a5,a6,a7,a8,a9,a10,a11,a12,a13,a14,a15,a16,-⟩:=this;exact⟨a0,a1,a2,a3,a4,a5,a6,a7,a8,a9,a10,a11,a12,a13,a14,by omega,by omega,a15,a16,trivial⟩
def a5b:Qq:=d9P
theorem d1e:SysOk Qr 31 a5b:=e9H
def tabS:List (Nat×Qq):=[(6,f7Q),(7,b2J),(9,c8Y),(10,b4x),(11,a2M),(12,b5t),(13,b2C),(14,b3D),(15,b4M),(16,b6a),(17,b2F),(18,a1y),(19,a4a),(20,b3w),(21,a1T),(22,f7X),(23,c1o),(24,b2p),(25,a3e),(26,a4q),(27,b0z),(28,c4E),(29,b5u),(30,c4t),(31,a5b),(32,b2O),(33,a4b),(34,a4S),(35,a2F),(36,b1u),(37,b1q),(38,a9z),(39,a1c),(40,a9p),(41,a9l),(42,a8G),(43,a2i),(44,a5r),(45,a3J),(46,b3l),(47,b2V),(48,a1r),(49,b1Z),(50,a2q),(51,a9C),(52,b4P),(53,b8A),(54,c0U),(55,b2X),(56,b8C),(57,a4M),(58,a5a),(59,a4V),(60,c2M),(61,a4k),(62,a9k),(63,a8P),(64,b0b),(65,a3S),(66,a3s),(67,a5h),(68,a5z),(69,a7w),(70,a6a),(71,a9d),(72,b1A),(73,a1I),(74,a3B),(75,a7S),(76,a4W),(77,b1y),(78,a4N),(79,a8O),(80,c2s),(81,c4l),(82,b0U),(83,a9K),(84,a9N),(85,c1S),(86,b8B),(87,b4R),(88,a3k),(89,a3m),(90,c9a),(91,a3K),(92,a4d),(93,a6X),(94,b0W),(95,b4u),(96,b5B),(97,c2z),(98,a8q),(99,b8z),(100,c2C),(101,a9n),(102,b1G),(103,b3J),(104,b2I),(105,b2b),(106,b1N),(107,a3Q),(108,a0M),(109,a3c),(110,a1z),(111,b0P),(112,b2j),(113,b2c),(114,a6j),(115,a5F),(116,c0Z),(117,a5n),(118,c0V),(119,a9E),(120,a4U),(121,a1q),(122,b2W),(123,c2d),(124,c3q),(125,b4d),(126,c4u),(127,a6g),(128,b2K),(129,c0F),(130,c4r),(131,a3M),(132,b8y),(133,b9v),(134,a7Y),(135,a1a),(136,c9c),(137,c3Z),(138,b5O),(139,b9z),(140,c0H),(141,a1l)]
def Tab(f:Nat):Option Qq:=c0K f tabS
theorem f7O:AllC (fun a=>SysOk Qr a.1 a.2) tabS :=
 .k f8m <| .k c8H <| .k e4F <| .k d3A <| .k c8J <| .k d3W <| .k c9H <| .k d0Q <| .k d3s <| .k d4k <| .k c9T <| .k c9Y <| .k d4h <| .k d0G <| .k c6Z <| .k f8p <| .k d1T <| .k d5c <| .k d2x <| .k c9h <| .k d2X <| .k e2B <| .k d4j <| .k e2d <| .k d1e <| .k c9z <| .k d0S <| .k c7v <| .k c0C <| .k d3R <| .k d4e <| .k c4i <| .k c2m <| .k c3L <| .k c3U <| .k c2n <| .k c9s <| .k c9e <| .k c4V <| .k d1i <| .k c8M <| .k d0r <| .k c7X <| .k d0w <| .k c4g <| .k d2N <| .k d5k <| .k d7Q <| .k c9j <| .k d5q <| .k d6U <| .k d4W <| .k c7Z <| .k d9R <| .k d5f <| .k c3P <| .k d7M <| .k d8R <| .k d5o <| .k d2j <| .k b3A <| .k b4C <| .k b9x <| .k b5p <| .k c3I <| .k c7S <| .k c9x <| .k d1l <| .k c1f <| .k c7Y <| .k c7t <| .k d1w <| .k d7U <| .k d9q <| .k e1D <| .k c6q <| .k c4v <| .k c4C <| .k d9r <| .k d4C <| .k d2P <| .k d5j <| .k b4q <| .k e4u <| .k d2m <| .k d3K <| .k e3n <| .k e0C <| .k d3f <| .k d3V <| .k d9f <| .k d9H <| .k d5x <| .k e0b <| .k e1X <| .k c7q <| .k d0E <| .k c8N <| .k c7C <| .k c8b <| .k c2F <| .k c3F <| .k c7k <| .k c8d <| .k c6O <| .k c7O <| .k c7M <| .k d3e <| .k d9e <| .k d8w <| .k d8h <| .k d8z <| .k c4h <| .k c7H <| .k d7h <| .k c8I <| .k d9i <| .k d9X <| .k e4E <| .k e1M <| .k d3v <| .k c9B <| .k d1t <| .k e1Y <| .k d2G <| .k d5h <| .k d7i <| .k d2l <| .k d3L <| .k e4T <| .k e0E <| .k d3Q <| .k d6O <| .k d7L <| .k d6X <| .e
theorem f0k:∀f S,Tab f=sm S->SysOk Qr f S:=fun _ _ h=>f7O.mem (c6Q h)
theorem tbl(n:Nat)(S:Qq)(h:Tab n=sm S:=by kernel_rfl):Tab n=sm S:=h
def f8l:=tbl 6 f7Q
def c7I:=tbl 7 b2J
def d3E:=tbl 9 c8Y
def b9R:=tbl 10 b4x
def c7N:=tbl 11 a2M
def d2s:=tbl 12 b5t
def c8f:=tbl 13 b2C
def c9G:=tbl 14 b3D
def d1G:=tbl 15 b4M
def d3k:=tbl 16 b6a
def c8c:=tbl 17 b2F
def c7D:=tbl 18 a1y
def d2e:=tbl 19 a4a
def c9k:=tbl 20 b3w
def c5f:=tbl 21 a1T
def f8o:=tbl 22 f7X
def d3N:=tbl 24 b2p
def d0u:=tbl 25 a3e
def c7n:=tbl 26 a4q
def d0L:=tbl 27 b0z
def d9C:=tbl 28 c4E
def d3l:=tbl 29 b5u
def d8V:=tbl 30 c4t
def c0w:=tbl 31 a5b
def c7R:=tbl 32 b2O
def c9X:=tbl 33 a4b
def c6z:=tbl 34 a4S
def c0A:=tbl 35 a2F
def d3b:=tbl 36 b1u
def d2r:=tbl 37 b1q
def c3Q:=tbl 38 a9z
def c1F:=tbl 39 a1c
def c2B:=tbl 40 a9p
def c1Q:=tbl 41 a9l
def c1B:=tbl 42 a8G
def c7A:=tbl 43 a2i
def c7y:=tbl 44 a5r
def c4z:=tbl 45 a3J
def c9C:=tbl 46 b3l
def c7J:=tbl 47 b2V
def c9V:=tbl 48 a1r
def c6h:=tbl 49 b1Z
def b8P:=tbl 50 a2q
def c3S:=tbl 51 a9C
def d0V:=tbl 52 b4P
def d3Y:=tbl 53 b8A
def d6Q:=tbl 54 c0U
def c8i:=tbl 55 b2X
def d3O:=tbl 56 b8C
def d5p:=tbl 57 a4M
def d3X:=tbl 58 a5a
def c6V:=tbl 59 a4V
def d8m:=tbl 60 c2M
def d4d:=tbl 61 a4k
def c3o:=tbl 62 a9k
def d7j:=tbl 63 a8P
def d8t:=tbl 64 b0b
def d4g:=tbl 65 a3S
def d1Z:=tbl 66 a3s
def b3s:=tbl 67 a5h
def b4I:=tbl 68 a5z
def b9H:=tbl 69 a7w
def b5N:=tbl 70 a6a
def c2Z:=tbl 71 a9d
def c6T:=tbl 72 b1A
def c7P:=tbl 73 a1I
def c9l:=tbl 74 a3B
def b0F:=tbl 75 a7S
def c6x:=tbl 76 a4W
def c6g:=tbl 77 b1y
def c9i:=tbl 78 a4N
def d6S:=tbl 79 a8O
def d8e:=tbl 80 c2s
def d8T:=tbl 81 c4l
def c5c:=tbl 82 b0U
def c3D:=tbl 83 a9K
def c3K:=tbl 84 a9N
def d7T:=tbl 85 c1S
def d3U:=tbl 86 b8B
def d0K:=tbl 87 b4R
def d3P:=tbl 88 a3k
def b4Q:=tbl 89 a3m
def e3u:=tbl 90 c9a
def d1K:=tbl 91 a3K
def d2H:=tbl 92 a4d
def e0B:=tbl 93 a6X
def d9b:=tbl 94 b0W
def d1V:=tbl 95 b4u
def d2E:=tbl 96 b5B
def d7P:=tbl 97 c2z
def d8l:=tbl 98 a8q
def d3T:=tbl 99 b8z
def d8b:=tbl 100 c2C
def d9s:=tbl 101 a9n
def c7e:=tbl 102 b1G
def c9Q:=tbl 103 b3J
def c7E:=tbl 104 b2I
def c6j:=tbl 105 b2b
def c6e:=tbl 106 b1N
def c1C:=tbl 107 a3Q
def c3t:=tbl 108 a0M
def c5e:=tbl 109 a3c
def c6m:=tbl 110 a1z
def c4T:=tbl 111 b0P
def c7j:=tbl 112 b2j
def c6p:=tbl 113 b2c
def d1A:=tbl 114 a6j
def d8E:=tbl 115 a5F
def d7c:=tbl 116 c0Z
def d6Y:=tbl 117 a5n
def d7e:=tbl 118 c0V
def c3G:=tbl 119 a9E
def c6D:=tbl 120 a4U
def d4R:=tbl 121 a1q
def c7U:=tbl 122 b2W
def d8d:=tbl 123 c2d
def d8x:=tbl 124 c3q
def e3y:=tbl 125 b4d
def d9B:=tbl 126 c4u
def d0d:=tbl 127 a6g
def c7B:=tbl 128 b2K
def d9t:=tbl 130 c4r
def c0t:=tbl 131 a3M
def d4c:=tbl 132 b8y
def d4o:=tbl 133 b9v
def d1d:=tbl 134 a7Y
def d2D:=tbl 135 a1a
def e3k:=tbl 136 c9c
def d8Y:=tbl 137 c3Z
def d2q:=tbl 138 b5O
def d4T:=tbl 139 b9z
def d6Z:=tbl 140 c0H
def d4Z:=tbl 141 a1l
end Go.Proofs.YtmekflfjaflmkaaGreat
