/- The iterators of package bundle: what they yield. -/
import Derived.Test.YthmkfeiapdbojaaHBt
import Derived.Test.YthmkfeiapdbojaaHTxe
import Derived.Test.YthmkfeiapdbojaaHTab
import Derived.Test.YthmkfeiapdbojaaHSaa
set_option linter.unusedSimpArgs false
set_option linter.unusedVariables false
open Go.Sx.PT renaming ev → ξ1
open Go.Sx.BE renaming safe → ξ2, pe → ξ3, all → ξz
open Go.Sx.IE renaming pe → ξ4
open Go.Sx.PEnv renaming «at» → ξ5, push → ξt
open List renaming getD_cons_zero → ξ6, getD_cons_succ → ξ7, getElem?_cons_zero → ξ8, getElem?_cons_succ → ξ9, drop_zero → ξf, length_cons → ξg, length_nil → ξh, take_succ_cons → ξm, take_zero → ξn, cons_append → ξu, nil_append → ξv, append_nil → ξw, map_cons → ξD, map_nil → ξE
open Go.Sx renaming a0g → ξa, a0h → ξb, a0b → ξc, a0f → ξd, a0c → ξo, a0a → ξp, a0d → ξq, a0W → ξF, a0V → ξG, a0O → ξH, a0P → ξI, a0X → ξJ, a0T → ξK, a0Q → ξL, a0U → ξM, a0L → ξN, a0N → ξO, a0j → ξP, a0J → ξQ, a0Y → ξR, a0u → ξS, a0K → ξT, a0B → ξU, a0t → ξV, a0s → ξW, a0v → ξX, a0M → ξY
open Nat renaming add_zero → ξe, le_refl → ξi
open Bool renaming false_eq_true → ξl, and_self → ξA, not_true → ξB, not_false → ξC
open Option renaming map_some → ξr, bind_some → ξs
open Go.Sx.SV renaming pvs → ξx, pv → ξy
open Option renaming bind_some → Q0
open Bool renaming and_eq_true → Q1
open Option.some renaming injEq → Q2
set_option maxRecDepth 100000
namespace Go.Proofs.Ythmkfeiapdbojaa
open Go.Sx Go.Bun
def bpv (x : Bd) : List PV := [.int .i64 x.a, .int .i64 x.b, .int .i64 x.c, .int .i64 x.d, .int .i64 x.e, .int .i64 x.f]
def lpv (x : List Int) : List PV := x.map (PV.int .i64)
def bOf : List PV -> Option Bd
 | [.int .i64 a, .int .i64 b, .int .i64 c, .int .i64 d, .int .i64 e, .int .i64 f] => some ⟨a, b, c, d, e, f⟩
 | _ => none
theorem c4o {l : List PV} {b : Bd} (h : bOf l = some b) : l = bpv b := by
 unfold bOf at h
 split at h
 ·cases h; rfl
 ·cases h
def itB (f : Nat) (caps : List PV) : Option (List (List PV)) :=
 if f = 95 then (match caps with
  | [.cell l 0] => (bOf l).bind fun s => if s.Ok then some ((Lk s 6).map fun x => [.agg (lpv x)]) else none
  | _ => none)
 else if f = 86 then (match caps with
  | [] => some []
  | _ => none)
 else none
def b7a (f : Nat) : Option Sx.Sys := if f = 96 then some bundle_following_S else none
theorem c4r : ∀ f S, b7a f = some S -> SysOk Try.prog f S := by
 intro f S h
 unfold b7a at h
 split at h
 ·rename_i hf; subst hf
  cases h
  exact a6G
 ·cases h
theorem c5n (b s : Bd) (hb : b.Ok) (hs : s.Ok) : a0e b7a 1 96 [.agg (bpv b), .agg (bpv s)] [] = some (.agg (bpv (s.next b)), []) := by
 obtain ⟨b0, b1, b2, b3, b4, b5⟩ := b
 obtain ⟨s0, s1, s2, s3, s4, s5⟩ := s
 simp only [Bd.Ok] at hb hs
 simp only [a0e, b7a, if_true, Q0, Sys.run, bpv]
 show ((a0i [.sh (.agg [_, _, _, _, _, _]), .sh (.agg [_, _, _, _, _, _])] _).bind _) = _
 simp only [a0i, a0d, a0c, Option.map_some, Q0, List.append_nil, List.nil_append, List.cons_append, if_true]
 show (PT.ev _ a4O _).bind _ = _
 simp -implicitDefEqProofs only [a4O, ↓reduceIte,eq_self,ξ1,ξ2,ξ3,ξ4,ξ5,ξ6,ξ7,ξ8,ξ9,ξa,ξb,ξc,ξd,ξe,ξf,ξg,ξh,Nat.reduceAdd,ξi,if_true,if_false,ξl,ξm,ξn,ξo,ξp,ξq,ξr,ξs,ξt,ξu,ξv,ξw,ξx,ξy,ξz,ξA,ξB,ξC,ξD,ξE, a0k, or_true, a1k, a1N, Q1]
 unfold Bd.next
 simp only
 repeat' (split <;> try simp only [Q0])
 all_goals first | rfl | (exfalso; omega)
def itC : Ctx := cl true [] [([false, false, false, false, true], 2)]
theorem c0C : ProgOk Try.prog itC := c7V true [] [([false, false, false, false, true], 2)]
noncomputable abbrev b9y : Code := (a1C Try.f95).body
def a6 (k : Nat) : List SV := a4q k 6
def itY : Cfg := { todo := [.reg [false, false, false, false, true] [2], .code [true, false, false, false, true], .code [true, false, false, true], .inLoop [false, false, true], .inBlock 0], sl := [.va 0, .pa 1 0, .undef, .ptr 0 0, .junk 0, .va 0, .agg (a6 0), .junk 1, .junk 2, .junk 3, .junk 4, .junk 5, .junk 6, .junk 7], H := [.cells (a6 0) 23 false], ni := 6, nb := 0, nv := 2, nj := 8 }
def itT : Cfg := { itY with todo := .reg [false, false, false, false, true] [] :: itY.todo.drop 1, sl := itY.sl.set 7 (.bool (.t true)) }
def o1 : Out -> Out | .load _ _ _ _ _ _ k => k | o => o
def o2 : Out -> Out | .call _ _ _ _ _ _ _ k => k | o => o
def iz : BE := .and (.eq (.a 12) (.l 0)) (.and (.eq (.a 13) (.l 0)) (.and (.eq (.a 14) (.l 0)) (.and (.eq (.a 15) (.l 0)) (.and (.eq (.a 16) (.l 0)) (.eq (.a 17) (.l 0))))))
theorem c0E : run itC (a1C Try.f95) 100 itT = .load false (.pa 1 0) (a6 6) 6 0 0 (.call 96 [.agg (a6 0), .agg (a6 6)] [] (.agg (a6 12)) 6 0 0 (.ite iz (.stop itR) (.stop itZ))) := by kernel_rfl
noncomputable def itJ : List SV := itZ.sl.zipIdx.filterMap fun (v, i) => if i = 4 \/ 7 <= i then some v else none
abbrev c6J : List IE := [.a 12, .a 13, .a 14, .a 15, .a 16, .a 17]
noncomputable abbrev itA : Asg := ⟨c6J, [], [.va 0, .va 1], itJ⟩
theorem b9G : fits ⟨0, 0, 0, 0⟩ itA itY itZ = true := by kernel_rfl
theorem d0y : c3T b9y itY = some (0, [.agg (a6 0)], itT) := by kernel_rfl
noncomputable def itS : Cfg := match run itC (a1C Try.f95) 100 (a1e Try.f95.ntmps [.va 0, .pa 1 0] 0 0 2) with | .stop g => g | _ => default
theorem b5R : run itC (a1C Try.f95) 100 (a1e Try.f95.ntmps [.va 0, .pa 1 0] 0 0 2) = .stop itS := by kernel_rfl
noncomputable def c6L : List SV := itS.sl.zipIdx.filterMap fun (v, i) => if i = 4 \/ 7 <= i then some v else none
abbrev c3k : List IE := [.l 0, .l 0, .l 0, .l 0, .l 0, .l 0]
noncomputable abbrev d0B : Asg := ⟨c3k, [], [.va 0, .va 1], c6L⟩
theorem b7H : fits ⟨0, 0, 0, 0⟩ d0B itY itS = true := by kernel_rfl
theorem okR : a4Q itR = true := by kernel_rfl
theorem okZ : a4Q itZ = true := by kernel_rfl
theorem okS : a4Q itS = true := by kernel_rfl
def b9B (b : Code) (g : Cfg) : Bool := match g.todo with
 | [] => true
 | .code q :: _ => (match sub b q with | .ret => true | _ => false)
 | _ => false
theorem c3x {b : Code} {g : Cfg} (h : b9B b g = true) : g.todo = [] \/ ∃ q k, g.todo = .code q :: k /\ sub b q = .ret := by
 unfold b9B at h
 split at h
 ·rename_i h1; exact .inl h1
 ·rename_i q k h1
  split at h
  ·rename_i h2; exact .inr ⟨q, k, h1, h2⟩
  ·cases h
 ·cases h
theorem c6y : b9B b9y itR = true := by kernel_rfl
theorem c5N : itJ.length = 8 := by kernel_rfl
theorem c3R : c6L.length = 8 := by kernel_rfl
theorem c8C : ∃ gR gZ J, run itC (a1C Try.f95) 100 itT = .load false (.pa 1 0) (a6 6) 6 0 0 (.call 96 [.agg (a6 0), .agg (a6 6)] [] (.agg (a6 12)) 6 0 0 (.ite iz (.stop gR) (.stop gZ))) /\
  a4Q gR = true /\ a4Q gZ = true /\ b9B b9y gR = true /\ fits ⟨0, 0, 0, 0⟩ ⟨c6J, [], [.va 0, .va 1], J⟩ itY gZ = true /\ J.length = 8 := ⟨itR, itZ, itJ, c0E, okR, okZ, c6y, b9G, c5N⟩
theorem c7M : ∃ gS J, run itC (a1C Try.f95) 100 (a1e Try.f95.ntmps [.va 0, .pa 1 0] 0 0 2) = .stop gS /\
  a4Q gS = true /\ fits ⟨0, 0, 0, 0⟩ ⟨c3k, [], [.va 0, .va 1], J⟩ itY gS = true /\ J.length = 8 := ⟨itS, c6L, b5R, okS, b7H, c3R⟩
theorem b9P {s : Hp} {B : Inf} {b : Bd} {x : List Value} (h : Reps s B (bpv b) x) : x = b.cs := by
 simp only [bpv, Reps, Rep] at h
 obtain ⟨_, _, rfl, rfl, _, _, rfl, rfl, _, _, rfl, rfl, _, _, rfl, rfl, _, _, rfl, rfl, _, _, rfl, rfl, rfl⟩ := h
 rfl
theorem c0p (s : Hp) (B : Inf) (b : Bd) : Reps s B (bpv b) b.cs := ⟨_, _, rfl, rfl, _, _, rfl, rfl, _, _, rfl, rfl, _, _, rfl, rfl, _, _, rfl, rfl, _, _, rfl, rfl, rfl⟩
theorem c5a (b s : Bd) (hb : b.Ok) (hs : s.Ok) (hp : Hp) : Ct Try.prog 96 [b.v, s.v] hp [] (fun v s' m' => m' = [] /\ v = (s.next b).v) := by
 have h := evalF_good c4r 1 96 _ _ _ _ (c5n b s hb hs)
 have hc := h.2 hp [] [b.v, s.v] rfl (Coh.of_none (by simp)) ⟨_, _, rfl, ⟨_, rfl, c0p hp _ b⟩, _, _, rfl, ⟨_, rfl, c0p hp _ s⟩, rfl⟩
 intro w h1 h2
 refine (hc w h1 h2).mono ?_
 rintro e w' ⟨v, s', m', e1, e2, e3, e4, e5, e6, e7, _, hr, hm, _⟩
 have hm : m' = [] := hm
 subst hm
 refine ⟨v, s', [], e1, e2, e3, e4, e5, e6, e7, rfl, ?_⟩
 obtain ⟨vs, rfl, hr⟩ := hr
 rw [b9P hr]; rfl
def yB (x : List Int) : List Value := [.agg (cI x).toArray]
theorem c3w (s : Bd) (hs : s.Ok) (hp : Hp) (b base : Nat) (hk : ∀ (j : Nat) (u : Value), s.cs[j]? = some u -> hp b (base + j) = some u) : a7l Try.prog 95 [.pointer (some ⟨b, base, none⟩)] hp ((Lk s 6).map yB) := by
 refine c2Q (fn := a1C Try.f95) (is := []) (bs := []) (vs := [.pointer (some ⟨b, base, none⟩)]) (args := [.va 0, .pa 1 0]) Try.func95 rfl (fun L => by simp [SV.dens, SV.den, a1l, Addr.add, yv]) rfl ?_
 intro L JJ B hY
 obtain ⟨gR, gZ, J, c0E, okR, okZ, c6y, b9G, c5N⟩ := c8C
 obtain ⟨gS, J0, b5R, okS, b7H, c3R⟩ := c7M
 have main : ∀ (d n : Nat), n + d = (Lk s 6).length -> n < (Lk s 6).length -> ∀ js : List Value, js.length = 8 ->
   a6m Try.prog 95 b9y hp B (fun e w' => ∃ v, e = .returned v /\ ∃ E, JJ ((Lk s 6).map yB).length E w') (JJ n) itY { i := (s.unr n).l, b := [], v := [yv L, .pointer (some ⟨b, base, none⟩)], j := js } := by
  intro d
  induction d with
  | zero => intro n h1 h2; omega
  | succ d ih =>
   intro n h1 h2 js hjs
   obtain ⟨hget, hnx⟩ := c7U hs h2
   have hxok : (s.unr n).Ok := (a3X hs n).1
   generalize hx : s.unr n = x at *
   refine c8j (fn := a1C Try.f95) hY d0y rfl (vals := yB x.l) (fun β => rfl) (by rw [List.getElem?_map, hget]; rfl) ?_
   refine b4a (c := itC) (Q := fun _ _ _ => True) c0C rfl (hY.stab (n + 1)) 100 ?_
   rw [c0E]
   refine ⟨s.l, [], [], rfl, rfl, rfl, rfl, ⟨b, base, by simp [SV.den, a1l, Addr.add], .inl fun j u hj => hk j u hj⟩, ?_⟩
   intro β s1 hs1 hsh
   refine ⟨_, c5a x s hxok hs s1, ?_⟩
   rintro v s' m' hle ⟨rfl, rfl⟩
   refine ⟨(s.next x).l, [], [], rfl, rfl, rfl, rfl, rfl, ?_⟩
   refine ⟨fun hc => ?_, fun hc => ?_⟩
   ·refine ⟨okR, rfl, rfl, b8V (fn := a1C Try.f95) Try.func95 rfl (c3x c6y) (fun E w hj => ⟨_, rfl, E, ?_⟩)⟩
    rcases hnx with ⟨h3, h4, h5⟩ | ⟨h3, h4⟩
    ·exfalso
     apply h5
     simp only [iz, BE.den, IE.den, Q1, a2d] at hc
     obtain ⟨h6, h7, h8, h9, h10, h11⟩ := hc
     generalize s.next x = y at *
     obtain ⟨ya, yb, yc, yd, ye, yf⟩ := y
     simp only [Bd.l, List.getD_eq_getElem?_getD] at h6 h7 h8 h9 h10 h11
     have e1 : ya = 0 := h6
     have e2 : yb = 0 := h7
     have e3 : yc = 0 := h8
     have e4 : yd = 0 := h9
     have e5 : ye = 0 := h10
     have e6 : yf = 0 := h11
     subst e1 e2 e3 e4 e5 e6
     rfl
    ·rw [List.length_map, <- h3]; exact hj
   ·rcases hnx with ⟨h3, h4, h5⟩ | ⟨h3, h4⟩
    ·refine ⟨okZ, rfl, rfl, b8T (t := itY) (A := ⟨c6J, [], [.va 0, .va 1], J⟩) (hY.stab (n + 1)) b9G rfl (fun _ _ _ _ h => by cases h) (fun js' hjs' => ?_)⟩
     have := ih (n + 1) (by omega) h3 js' (hjs'.trans c5N)
     rw [<- h4] at this
     exact this
    ·exfalso
     rw [h4] at hc
     cases hc
 refine b4a (c := itC) (Q := fun _ _ _ => True) c0C rfl (hY.stab 0) 100 ?_
 show VC _ _ _ (run itC (a1C Try.f95) 100 (a1e Try.f95.ntmps [.va 0, .pa 1 0] 0 0 2)) _ _
 rw [b5R]
 refine ⟨okS, rfl, rfl, b8T (t := itY) (A := ⟨c3k, [], [.va 0, .va 1], J0⟩) (hY.stab 0) b7H rfl (fun _ _ _ _ h => by cases h) (fun js hjs => ?_)⟩
 have h0 : 0 < (Lk s 6).length := c4Q s 6
 have := main (Lk s 6).length 0 (by omega) h0 js (hjs.trans c3R)
 rw [c7q s hs] at this
 exact this
theorem c5m (hp : Hp) : a7l Try.prog 86 [] hp [] := by
 refine c2Q (fn := a1C Try.f86) (is := []) (bs := []) (vs := []) (args := [.va 0]) Try.func86 rfl (fun L => rfl) rfl ?_
 intro L JJ B hY
 refine b4a (c := itC) (Q := fun _ _ _ => True) c0C rfl (hY.stab 0) 100 ?_
 have e : run itC (a1C Try.f86) 100 (a1e Try.f86.ntmps [.va 0] 0 0 1) = .stop { a1e Try.f86.ntmps [.va 0] 0 0 1 with todo := [] } := by kernel_rfl
 show VC _ _ _ (run itC (a1C Try.f86) 100 (a1e Try.f86.ntmps [.va 0] 0 0 1)) _ _
 rw [e]
 exact ⟨rfl, rfl, rfl, b8V (fn := a1C Try.f86) Try.func86 rfl (.inl rfl) (fun E w hj => ⟨_, rfl, E, hj⟩)⟩
theorem c0r (s : Hp) (B : Inf) : ∀ x : List Int, Reps s B (lpv x) (cI x)
 | [] => rfl
 | z :: x => ⟨_, _, rfl, rfl, c0r s B x⟩
theorem c0M (s : Hp) (B : Inf) : ∀ L : List (List Int), a0n s B (L.map fun x => [PV.agg (lpv x)]) (L.map yB)
 | [] => rfl
 | x :: L => ⟨_, _, rfl, ⟨_, _, rfl, ⟨_, rfl, c0r s B x⟩, rfl⟩, c0M s B L⟩
theorem c5h : c9k Try.prog itB := by
 intro f caps ys h
 unfold itB at h
 split at h
 ·rename_i hf; subst hf
  split at h
  ·rename_i l
   simp only [Option.bind_eq_some_iff] at h
   obtain ⟨s, hs, h⟩ := h
   split at h
   case isFalse => cases h
   rename_i hok
   simp only [Q2] at h; subst h
   refine ⟨Try.call95, fun hp B vs hvs => ?_⟩
   obtain ⟨v, r, rfl, hv, hr⟩ := hvs
   have hr : r = [] := hr
   subst hr
   obtain ⟨b, base, cs, rfl, h1, h2⟩ := hv
   rw [c4o hs] at h1
   rw [b9P h1] at h2
   exact ⟨(Lk s 6).map yB, fun t B' _ => c0M t B' _, c3w s hok hp b base h2⟩
  ·cases h
 ·split at h
  ·rename_i hf; subst hf
   split at h
   ·simp only [Q2] at h; subst h
    refine ⟨Try.call86, fun hp B vs hvs => ?_⟩
    have hvs : vs = [] := hvs
    subst hvs
    exact ⟨[], fun _ _ _ => rfl, c5m hp⟩
   ·cases h
  ·cases h
end Go.Proofs.Ythmkfeiapdbojaa
