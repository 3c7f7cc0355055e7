/- The iterators of package bundle: what they yield. -/
import Derived.Test.YthmkfeiapdbojaaHBt
import Derived.Test.YthmkfeiapdbojaaHTxe
import Derived.Test.YthmkfeiapdbojaaHTab
import Derived.Test.YthmkfeiapdbojaaHSaa
set_option linter.unusedSimpArgs false
set_option linter.unusedVariables false
open Go.Sx.PT renaming ev → ξ1
open Go.Sx.BE renaming safe → ξ2, pe → ξ3, all → ξz
open Go.Sx.IE renaming pe → ξ4
open Go.Sx renaming PEnv.at → ξ5
open Go.Sx.PEnv renaming push → ξt
open List renaming getD_cons_zero → ξ6, getD_cons_succ → ξ7, getElem?_cons_zero → ξ8, getElem?_cons_succ → ξ9, drop_zero → ξf, length_cons → ξg, length_nil → ξh, take_succ_cons → ξm, take_zero → ξn, cons_append → ξu, nil_append → ξv, append_nil → ξw, map_cons → ξD, map_nil → ξE
open Go.Sx renaming a0g → ξa, a0h → ξb, a0b → ξc, a0f → ξd, a0c → ξo, a0a → ξp, a0d → ξq, a0T → ξF, a0W → ξG, a0N → ξH, a0K → ξI, a0X → ξJ, a0V → ξK, a0P → ξL, a0Y → ξM, a0J → ξN, a0O → ξO, a0j → ξP, a0Q → ξQ, a0U → ξR, a0s → ξS, a0M → ξT, a0B → ξU, a0t → ξV, a0u → ξW, a0v → ξX, a0L → ξY
open Nat renaming add_zero → ξe, le_refl → ξi
open Bool renaming false_eq_true → ξl, and_self → ξA, not_true → ξB, not_false → ξC
open Option renaming map_some → ξr, bind_some → ξs
open Go.Sx.SV renaming pvs → ξx, pv → ξy
open Option renaming bind_some → Q0
open Bool renaming and_eq_true → Q1
open Option.some renaming injEq → Q2
set_option maxRecDepth 100000
namespace Go.Proofs.Ythmkfeiapdbojaa
open Go.Sx Go.Bun
def bpv (x : Bd) : List PV := [.int .i64 x.a, .int .i64 x.b, .int .i64 x.c, .int .i64 x.d, .int .i64 x.e, .int .i64 x.f]
def lpv (x : List Int) : List PV := x.map (PV.int .i64)
def bOf : List PV -> Option Bd
 | [.int .i64 a, .int .i64 b, .int .i64 c, .int .i64 d, .int .i64 e, .int .i64 f] => some ⟨a, b, c, d, e, f⟩
 | _ => none
theorem c4w {l : List PV} {b : Bd} (h : bOf l = some b) : l = bpv b := by
 unfold bOf at h
 split at h
 ·cases h; rfl
 ·cases h
def itB (f : Nat) (caps : List PV) : Option (List (List PV)) :=
 if f = 95 then (match caps with
  | [.cell l 0] => (bOf l).bind fun s => if s.Ok then some ((Lk s 6).map fun x => [.agg (lpv x)]) else none
  | _ => none)
 else if f = 86 then (match caps with
  | [] => some []
  | _ => none)
 else none
def b6G (f : Nat) : Option Sx.Sys := if f = 96 then some bundle_following_S else none
theorem c5i : ∀ f S, b6G f = some S -> SysOk Try.prog f S := by
 intro f S h
 unfold b6G at h
 split at h
 ·rename_i hf; subst hf
  cases h
  exact a6F
 ·cases h
theorem c4M (b s : Bd) (hb : b.Ok) (hs : s.Ok) : a0e b6G 1 96 [.agg (bpv b), .agg (bpv s)] [] = some (.agg (bpv (s.next b)), []) := by
 obtain ⟨b0, b1, b2, b3, b4, b5⟩ := b
 obtain ⟨s0, s1, s2, s3, s4, s5⟩ := s
 simp only [Bd.Ok] at hb hs
 simp only [a0e, b6G, if_true, Q0, Sys.run, bpv]
 show ((a0i [.sh (.agg [_, _, _, _, _, _]), .sh (.agg [_, _, _, _, _, _])] _).bind _) = _
 simp only [a0i, a0d, a0c, Option.map_some, Q0, List.append_nil, List.nil_append, List.cons_append, if_true]
 show (PT.ev _ a4W _).bind _ = _
 simp -implicitDefEqProofs only [a4W, ↓reduceIte,eq_self,ξ1,ξ2,ξ3,ξ4,ξ5,ξ6,ξ7,ξ8,ξ9,ξa,ξb,ξc,ξd,ξe,ξf,ξg,ξh,Nat.reduceAdd,ξi,if_true,if_false,ξl,ξm,ξn,ξo,ξp,ξq,ξr,ξs,ξt,ξu,ξv,ξw,ξx,ξy,ξz,ξA,ξB,ξC,ξD,ξE, a0k, or_true, a1k, a1J, Q1]
 unfold Bd.next
 simp only
 repeat' (split <;> try simp only [Q0])
 all_goals first | rfl | (exfalso; omega)
def itC : Ctx := cl true [] [([false, false, false, false, true], 2)]
theorem c0I : ProgOk Try.prog itC := c7I true [] [([false, false, false, false, true], 2)]
noncomputable abbrev b9w : Code := (a1x Try.f95).body
def a6 (k : Nat) : List SV := a4o k 6
def itY : Cfg := { todo := [.reg [false, false, false, false, true] [2], .code [true, false, false, false, true], .code [true, false, false, true], .inLoop [false, false, true], .inBlock 0], sl := [.va 0, .pa 1 0, .undef, .ptr 0 0, .junk 0, .va 0, .agg (a6 0), .junk 1, .junk 2, .junk 3, .junk 4, .junk 5, .junk 6, .junk 7], H := [.cells (a6 0) 23 false], ni := 6, nb := 0, nv := 2, nj := 8 }
def itT : Cfg := { itY with todo := .reg [false, false, false, false, true] [] :: itY.todo.drop 1, sl := itY.sl.set 7 (.bool (.t true)) }
def o1 : Out -> Out | .load _ _ _ _ _ _ k => k | o => o
def o2 : Out -> Out | .call _ _ _ _ _ _ _ k => k | o => o
def oT : Out -> Cfg | .ite _ (.stop g) _ => g | _ => default
def oE : Out -> Cfg | .ite _ _ (.stop g) => g | _ => default
noncomputable def itR : Cfg := oT (o2 (o1 (run itC (a1x Try.f95) 100 itT)))
noncomputable def itZ : Cfg := oE (o2 (o1 (run itC (a1x Try.f95) 100 itT)))
def iz : BE := .and (.eq (.a 12) (.l 0)) (.and (.eq (.a 13) (.l 0)) (.and (.eq (.a 14) (.l 0)) (.and (.eq (.a 15) (.l 0)) (.and (.eq (.a 16) (.l 0)) (.eq (.a 17) (.l 0))))))
theorem b9U : run itC (a1x Try.f95) 100 itT = .load false (.pa 1 0) (a6 6) 6 0 0 (.call 96 [.agg (a6 0), .agg (a6 6)] [] (.agg (a6 12)) 6 0 0 (.ite iz (.stop itR) (.stop itZ))) := by kernel_rfl
noncomputable def itJ : List SV := itZ.sl.zipIdx.filterMap fun (v, i) => if i = 4 \/ 7 <= i then some v else none
abbrev c6Q : List IE := [.a 12, .a 13, .a 14, .a 15, .a 16, .a 17]
noncomputable abbrev itA : Asg := ⟨c6Q, [], [.va 0, .va 1], itJ⟩
theorem c0c : fits ⟨0, 0, 0, 0⟩ itA itY itZ = true := by kernel_rfl
theorem d0J : c3K b9w itY = some (0, [.agg (a6 0)], itT) := by kernel_rfl
noncomputable def itS : Cfg := match run itC (a1x Try.f95) 100 (a1f Try.f95.ntmps [.va 0, .pa 1 0] 0 0 2) with | .stop g => g | _ => default
theorem b5Z : run itC (a1x Try.f95) 100 (a1f Try.f95.ntmps [.va 0, .pa 1 0] 0 0 2) = .stop itS := by kernel_rfl
noncomputable def c6p : List SV := itS.sl.zipIdx.filterMap fun (v, i) => if i = 4 \/ 7 <= i then some v else none
abbrev c3m : List IE := [.l 0, .l 0, .l 0, .l 0, .l 0, .l 0]
noncomputable abbrev d0Y : Asg := ⟨c3m, [], [.va 0, .va 1], c6p⟩
theorem b8n : fits ⟨0, 0, 0, 0⟩ d0Y itY itS = true := by kernel_rfl
theorem okR : a4R itR = true := by kernel_rfl
theorem okZ : a4R itZ = true := by kernel_rfl
theorem okS : a4R itS = true := by kernel_rfl
def b9v (b : Code) (g : Cfg) : Bool := match g.todo with
 | [] => true
 | .code q :: _ => (match sub b q with | .ret => true | _ => false)
 | _ => false
theorem c3J {b : Code} {g : Cfg} (h : b9v b g = true) : g.todo = [] \/ ∃ q k, g.todo = .code q :: k /\ sub b q = .ret := by
 unfold b9v at h
 split at h
 ·rename_i h1; exact .inl h1
 ·rename_i q k h1
  split at h
  ·rename_i h2; exact .inr ⟨q, k, h1, h2⟩
  ·cases h
 ·cases h
theorem c6m : b9v b9w itR = true := by kernel_rfl
theorem c6V : itJ.length = 8 := by kernel_rfl
theorem c4b : c6p.length = 8 := by kernel_rfl
theorem c8T : ∃ gR gZ J, run itC (a1x Try.f95) 100 itT = .load false (.pa 1 0) (a6 6) 6 0 0 (.call 96 [.agg (a6 0), .agg (a6 6)] [] (.agg (a6 12)) 6 0 0 (.ite iz (.stop gR) (.stop gZ))) /\
  a4R gR = true /\ a4R gZ = true /\ b9v b9w gR = true /\ fits ⟨0, 0, 0, 0⟩ ⟨c6Q, [], [.va 0, .va 1], J⟩ itY gZ = true /\ J.length = 8 := ⟨itR, itZ, itJ, b9U, okR, okZ, c6m, c0c, c6V⟩
theorem c8t : ∃ gS J, run itC (a1x Try.f95) 100 (a1f Try.f95.ntmps [.va 0, .pa 1 0] 0 0 2) = .stop gS /\
  a4R gS = true /\ fits ⟨0, 0, 0, 0⟩ ⟨c3m, [], [.va 0, .va 1], J⟩ itY gS = true /\ J.length = 8 := ⟨itS, c6p, b5Z, okS, b8n, c4b⟩
theorem c0W {s : Hp} {B : Inf} {b : Bd} {x : List Value} (h : Reps s B (bpv b) x) : x = b.cs := by
 simp only [bpv, Reps, Rep] at h
 obtain ⟨_, _, rfl, rfl, _, _, rfl, rfl, _, _, rfl, rfl, _, _, rfl, rfl, _, _, rfl, rfl, _, _, rfl, rfl, rfl⟩ := h
 rfl
theorem b9Z (s : Hp) (B : Inf) (b : Bd) : Reps s B (bpv b) b.cs := ⟨_, _, rfl, rfl, _, _, rfl, rfl, _, _, rfl, rfl, _, _, rfl, rfl, _, _, rfl, rfl, _, _, rfl, rfl, rfl⟩
theorem c4Y (b s : Bd) (hb : b.Ok) (hs : s.Ok) (hp : Hp) : Ct Try.prog 96 [b.v, s.v] hp [] (fun v s' m' => m' = [] /\ v = (s.next b).v) := by
 have h := evalF_good c5i 1 96 _ _ _ _ (c4M b s hb hs)
 have hc := h.2 hp [] [b.v, s.v] rfl (Coh.of_none (by simp)) ⟨_, _, rfl, ⟨_, rfl, b9Z hp _ b⟩, _, _, rfl, ⟨_, rfl, b9Z hp _ s⟩, rfl⟩
 intro w h1 h2
 refine (hc w h1 h2).mono ?_
 rintro e w' ⟨v, s', m', e1, e2, e3, e4, e5, e6, e7, _, hr, hm, _⟩
 have hm : m' = [] := hm
 subst hm
 refine ⟨v, s', [], e1, e2, e3, e4, e5, e6, e7, rfl, ?_⟩
 obtain ⟨vs, rfl, hr⟩ := hr
 rw [c0W hr]; rfl
def yB (x : List Int) : List Value := [.agg (cI x).toArray]
theorem c3l (s : Bd) (hs : s.Ok) (hp : Hp) (b base : Nat) (hk : ∀ (j : Nat) (u : Value), s.cs[j]? = some u -> hp b (base + j) = some u) : a7z Try.prog 95 [.pointer (some ⟨b, base, none⟩)] hp ((Lk s 6).map yB) := by
 refine c2u (fn := a1x Try.f95) (is := []) (bs := []) (vs := [.pointer (some ⟨b, base, none⟩)]) (args := [.va 0, .pa 1 0]) Try.func95 rfl (fun L => by simp [SV.dens, SV.den, a1l, Addr.add, yv]) rfl ?_
 intro L JJ B hY
 obtain ⟨gR, gZ, J, b9U, okR, okZ, c6m, c0c, c6V⟩ := c8T
 obtain ⟨gS, J0, b5Z, okS, b8n, c4b⟩ := c8t
 have main : ∀ (d n : Nat), n + d = (Lk s 6).length -> n < (Lk s 6).length -> ∀ js : List Value, js.length = 8 ->
   a6t Try.prog 95 b9w hp B (fun e w' => ∃ v, e = .returned v /\ ∃ E, JJ ((Lk s 6).map yB).length E w') (JJ n) itY { i := (s.unr n).l, b := [], v := [yv L, .pointer (some ⟨b, base, none⟩)], j := js } := by
  intro d
  induction d with
  | zero => intro n h1 h2; omega
  | succ d ih =>
   intro n h1 h2 js hjs
   obtain ⟨hget, hnx⟩ := c8a hs h2
   have hxok : (s.unr n).Ok := (a4c hs n).1
   generalize hx : s.unr n = x at *
   refine c7x (fn := a1x Try.f95) hY d0J rfl (vals := yB x.l) (fun β => rfl) (by rw [List.getElem?_map, hget]; rfl) ?_
   refine b3I (c := itC) (Q := fun _ _ _ => True) c0I rfl (hY.stab (n + 1)) 100 ?_
   rw [b9U]
   refine ⟨s.l, [], [], rfl, rfl, rfl, rfl, ⟨b, base, by simp [SV.den, a1l, Addr.add], .inl fun j u hj => hk j u hj⟩, ?_⟩
   intro β s1 hs1 hsh
   refine ⟨_, c4Y x s hxok hs s1, ?_⟩
   rintro v s' m' hle ⟨rfl, rfl⟩
   refine ⟨(s.next x).l, [], [], rfl, rfl, rfl, rfl, rfl, ?_⟩
   refine ⟨fun hc => ?_, fun hc => ?_⟩
   ·refine ⟨okR, rfl, rfl, b8C (fn := a1x Try.f95) Try.func95 rfl (c3J c6m) (fun E w hj => ⟨_, rfl, E, ?_⟩)⟩
    rcases hnx with ⟨h3, h4, h5⟩ | ⟨h3, h4⟩
    ·exfalso
     apply h5
     simp only [iz, BE.den, IE.den, Q1, a2e] at hc
     obtain ⟨h6, h7, h8, h9, h10, h11⟩ := hc
     generalize s.next x = y at *
     obtain ⟨ya, yb, yc, yd, ye, yf⟩ := y
     simp only [Bd.l, List.getD_eq_getElem?_getD] at h6 h7 h8 h9 h10 h11
     have e1 : ya = 0 := h6
     have e2 : yb = 0 := h7
     have e3 : yc = 0 := h8
     have e4 : yd = 0 := h9
     have e5 : ye = 0 := h10
     have e6 : yf = 0 := h11
     subst e1 e2 e3 e4 e5 e6
     rfl
    ·rw [List.length_map, <- h3]; exact hj
   ·rcases hnx with ⟨h3, h4, h5⟩ | ⟨h3, h4⟩
    ·refine ⟨okZ, rfl, rfl, b8W (t := itY) (A := ⟨c6Q, [], [.va 0, .va 1], J⟩) (hY.stab (n + 1)) c0c rfl (fun _ _ _ _ h => by cases h) (fun js' hjs' => ?_)⟩
     have := ih (n + 1) (by omega) h3 js' (hjs'.trans c6V)
     rw [<- h4] at this
     exact this
    ·exfalso
     rw [h4] at hc
     cases hc
 refine b3I (c := itC) (Q := fun _ _ _ => True) c0I rfl (hY.stab 0) 100 ?_
 show VC _ _ _ (run itC (a1x Try.f95) 100 (a1f Try.f95.ntmps [.va 0, .pa 1 0] 0 0 2)) _ _
 rw [b5Z]
 refine ⟨okS, rfl, rfl, b8W (t := itY) (A := ⟨c3m, [], [.va 0, .va 1], J0⟩) (hY.stab 0) b8n rfl (fun _ _ _ _ h => by cases h) (fun js hjs => ?_)⟩
 have h0 : 0 < (Lk s 6).length := c5g s 6
 have := main (Lk s 6).length 0 (by omega) h0 js (hjs.trans c4b)
 rw [c7P s hs] at this
 exact this
theorem c4r (hp : Hp) : a7z Try.prog 86 [] hp [] := by
 refine c2u (fn := a1x Try.f86) (is := []) (bs := []) (vs := []) (args := [.va 0]) Try.func86 rfl (fun L => rfl) rfl ?_
 intro L JJ B hY
 refine b3I (c := itC) (Q := fun _ _ _ => True) c0I rfl (hY.stab 0) 100 ?_
 have e : run itC (a1x Try.f86) 100 (a1f Try.f86.ntmps [.va 0] 0 0 1) = .stop { a1f Try.f86.ntmps [.va 0] 0 0 1 with todo := [] } := by kernel_rfl
 show VC _ _ _ (run itC (a1x Try.f86) 100 (a1f Try.f86.ntmps [.va 0] 0 0 1)) _ _
 rw [e]
 exact ⟨rfl, rfl, rfl, b8C (fn := a1x Try.f86) Try.func86 rfl (.inl rfl) (fun E w hj => ⟨_, rfl, E, hj⟩)⟩
theorem b9H (s : Hp) (B : Inf) : ∀ x : List Int, Reps s B (lpv x) (cI x)
 | [] => rfl
 | z :: x => ⟨_, _, rfl, rfl, b9H s B x⟩
theorem c0p (s : Hp) (B : Inf) : ∀ L : List (List Int), a0n s B (L.map fun x => [PV.agg (lpv x)]) (L.map yB)
 | [] => rfl
 | x :: L => ⟨_, _, rfl, ⟨_, _, rfl, ⟨_, rfl, b9H s B x⟩, rfl⟩, c0p s B L⟩
theorem c4x : c9l Try.prog itB := by
 intro f caps ys h
 unfold itB at h
 split at h
 ·rename_i hf; subst hf
  split at h
  ·rename_i l
   simp only [Option.bind_eq_some_iff] at h
   obtain ⟨s, hs, h⟩ := h
   split at h
   case isFalse => cases h
   rename_i hok
   simp only [Q2] at h; subst h
   refine ⟨Try.call95, fun hp B vs hvs => ?_⟩
   obtain ⟨v, r, rfl, hv, hr⟩ := hvs
   have hr : r = [] := hr
   subst hr
   obtain ⟨b, base, cs, rfl, h1, h2⟩ := hv
   rw [c4w hs] at h1
   rw [c0W h1] at h2
   exact ⟨(Lk s 6).map yB, fun t B' _ => c0p t B' _, c3l s hok hp b base h2⟩
  ·cases h
 ·split at h
  ·rename_i hf; subst hf
   split at h
   ·simp only [Q2] at h; subst h
    refine ⟨Try.call86, fun hp B vs hvs => ?_⟩
    have hvs : vs = [] := hvs
    subst hvs
    exact ⟨[], fun _ _ _ => rfl, c4r hp⟩
   ·cases h
  ·cases h
end Go.Proofs.Ythmkfeiapdbojaa
