/- demandset.Path over plain values: out of its contract. -/
import Derived.Test.YthjahianafohjaaHTab
import Derived.Test.YthjahianafohjaaHYt
import Derived.Test.YthjahianafohjaaHTxd
set_option linter.unusedSimpArgs false
set_option linter.unusedVariables false
set_option maxRecDepth 100000
namespace Go.Proofs.Ythjahianafohjaa
open Go.Sx
theorem bridge {P : Program} {f : FuncId} {vs : List Value} {s : Hp} {Q : Value -> Hp -> Prop} (h : Go.Sy.Ct P f vs s Q) (m : MS) : Ct P f vs s m (fun v s' m' => m' = m /\ Q v s') := by
 intro w hs hm
 refine (h w hs).mono ?_
 rintro e w' ⟨v, s', rfl, hb, hle, hsub, hnew, hq⟩
 have hlt : ∀ x ∈ m, x.1 < w.heap.size := fun x hx => (Array.getElem?_eq_some_iff.1 (hm.is x hx)).1
 refine ⟨v, s', m, rfl, Grows.of_below hb, hle, hsub, hnew, ⟨Nat.le_refl _, fun i x' hx => .inl ⟨x', hx, rfl⟩⟩, ⟨hm.nd, fun x hx => ?_, fun x hx o => ?_⟩, rfl, hq⟩
 ·rw [hb.block x.1 (hlt x hx)]; exact hm.is x hx
 ·cases hs' : s' x.1 o with
  | none => rfl
  | some u => exact absurd (hnew x.1 o u hs' (hm.un x hx o)) (by have := hlt x hx; omega)
def dBd : List PV -> Option Go.Bun.Bd
 | [.int .i64 a, .int .i64 b, .int .i64 c, .int .i64 d, .int .i64 e, .int .i64 f] => some ⟨a, b, c, d, e, f⟩
 | _ => none
def dOf : List PV -> Option Go.Bun.Of
 | [.int .i64 n, .int .i64 a, .int .i64 b, .int .i64 c, .int .i64 d, .int .i64 e, .int .i64 f, .int .i64 v] => some ⟨n, ⟨a, b, c, d, e, f⟩, v⟩
 | _ => none
def bdR (b : Go.Bun.Bd) : List PV := [.int .i64 b.a, .int .i64 b.b, .int .i64 b.c, .int .i64 b.d, .int .i64 b.e, .int .i64 b.f]
def ofR (o : Go.Bun.Of) : List PV := [.int .i64 o.n, .int .i64 o.w.a, .int .i64 o.w.b, .int .i64 o.w.c, .int .i64 o.w.d, .int .i64 o.w.e, .int .i64 o.w.f, .int .i64 o.v]
def chR (x : Go.Bun.Ch) : List PV := bdR x.p ++ bdR x.w
theorem dBd_bdR (b : Go.Bun.Bd) : dBd (bdR b) = some b := rfl
theorem dOf_ofR (o : Go.Bun.Of) : dOf (ofR o) = some o := rfl
theorem dBd_eq {l : List PV} {b : Go.Bun.Bd} (h : dBd l = some b) : l = bdR b := by
 unfold dBd at h
 split at h
 ·cases h; rfl
 ·cases h
theorem dOf_eq {l : List PV} {b : Go.Bun.Of} (h : dOf l = some b) : l = ofR b := by
 unfold dOf at h
 split at h
 ·cases h; rfl
 ·cases h
theorem mapM_rows {α : Type} {d : List PV -> Option α} {r : α -> List PV} (he : ∀ l a, d l = some a -> l = r a) : ∀ (ls : List (List PV)) (as0 : List α), ls.mapM d = some as0 -> ls = as0.map r
 | [], as0, h => by simp at h; subst h; rfl
 | l :: ls, as0, h => by
  simp only [List.mapM_cons, Option.bind_eq_bind, Option.pure_def, Option.bind_eq_some_iff, Option.some.injEq] at h
  obtain ⟨a, ha, zs1, has, rfl⟩ := h
  rw [he l a ha, mapM_rows he ls zs1 has]; rfl
theorem mapM_back {α : Type} {d : List PV -> Option α} {r : α -> List PV} (he : ∀ a, d (r a) = some a) : ∀ as0 : List α, (as0.map r).mapM d = some as0
 | [] => rfl
 | a :: as0 => by
  simp [List.mapM_cons, he, mapM_back he as0]
theorem reps_bd {s : Hp} {B : Inf} {b : Go.Bun.Bd} {x : List Value} (h : Reps s B (bdR b) x) : x = b.cs := by
 simp only [bdR, Reps, Rep] at h
 obtain ⟨_, _, rfl, rfl, _, _, rfl, rfl, _, _, rfl, rfl, _, _, rfl, rfl, _, _, rfl, rfl, _, _, rfl, rfl, rfl⟩ := h
 rfl
theorem reps_of {s : Hp} {B : Inf} {o : Go.Bun.Of} {x : List Value} (h : Reps s B (ofR o) x) : x = o.cs := by
 simp only [ofR, Reps, Rep] at h
 obtain ⟨_, _, rfl, rfl, _, _, rfl, rfl, _, _, rfl, rfl, _, _, rfl, rfl, _, _, rfl, rfl, _, _, rfl, rfl, _, _, rfl, rfl, _, _, rfl, rfl, rfl⟩ := h
 rfl
theorem repss_map {α : Type} {s : Hp} {B : Inf} {r : α -> List PV} {c : α -> List Value} (h1 : ∀ a x, Reps s B (r a) x -> x = c a) : ∀ (as0 : List α) (xs : List (List Value)), Repss s B (as0.map r) xs -> xs = as0.map c
 | [], xs, h => h
 | a :: as0, xs, h => by
  obtain ⟨x, q, rfl, hx, hq⟩ := h
  rw [h1 a x hx, repss_map h1 as0 q hq]; rfl
theorem repss_mk {α : Type} {s : Hp} {B : Inf} {r : α -> List PV} {c : α -> List Value} (h1 : ∀ a, Reps s B (r a) (c a)) : ∀ as0 : List α, Repss s B (as0.map r) (as0.map c)
 | [] => rfl
 | a :: as0 => ⟨_, _, rfl, h1 a, repss_mk h1 as0⟩
theorem reps_ch (s : Hp) (B : Inf) (x : Go.Bun.Ch) : Reps s B (chR x) x.cs :=
 ⟨_, _, rfl, rfl, _, _, rfl, rfl, _, _, rfl, rfl, _, _, rfl, rfl, _, _, rfl, rfl, _, _, rfl, rfl, _, _, rfl, rfl, _, _, rfl, rfl, _, _, rfl, rfl, _, _, rfl, rfl, _, _, rfl, rfl, _, _, rfl, rfl, rfl⟩
def pathF (as0 : List PV) (σ : List MO) : Option (PV × List MO) := match as0 with
 | [.sl 8 os, .agg sp, .sl 6 ps] => (os.mapM dOf).bind fun L => (dBd sp).bind fun S => (ps.mapM dBd).bind fun Ps =>
   if L.length <= 1000 /\ Ps.length <= 1000 then some (.sl 12 ((Go.Bun.path L S Ps).map chR), σ) else none
 | _ => none
theorem path_ctp : CtP Try.prog 37 pathF := by
 intro as0 σ r σ' h
 refine ⟨Try.call37, fun s m vs hm hvs => ?_⟩
 unfold pathF at h
 split at h
 case h_2 => cases h
 rename_i os sp ps
 simp only [Option.bind_eq_some_iff] at h
 obtain ⟨L, hL, S, hS, Ps, hPs, h⟩ := h
 split at h
 case isFalse => cases h
 rename_i hlen
 simp only [Option.some.injEq, Prod.mk.injEq] at h
 obtain ⟨rfl, rfl⟩ := h
 have eo := mapM_rows (fun l a => dOf_eq) os L hL
 have es := dBd_eq hS
 have ep := mapM_rows (fun l a => dBd_eq) ps Ps hPs
 subst eo es ep
 obtain ⟨lv, _, rfl, hl, sv, _, rfl, hsv, pv, _, rfl, hp, rfl⟩ := hvs
 obtain ⟨xs, h1, h2, _⟩ := hl
 obtain ⟨ys, k1, k2, _⟩ := hp
 obtain ⟨zs, rfl, z2⟩ := hsv
 have e1 := repss_map (c := Go.Bun.Of.cs) (fun o x hx => reps_of hx) L xs h2
 have e2 := repss_map (c := Go.Bun.Bd.cs) (fun o x hx => reps_bd hx) Ps ys k2
 have e3 := reps_bd z2
 subst e1 e2 e3
 have hc := bridge (Go.Proofs.YthjahianafohjaaY.path_ct L hlen.1 S Ps hlen.2 lv pv s h1 k1) m
 intro w hs hmo
 refine (hc w hs hmo).mono ?_
 rintro e w' ⟨v, s', m', he, g1, g2, g3, g4, g5, g6, rfl, hq⟩
 refine ⟨v, s', _, he, g1, g2, g3, g4, g5, g6, BLe.refl _, ?_, RepM.mono g2 (BLe.refl _) _ _ hm⟩
 exact ⟨_, hq, repss_mk (reps_ch s' _) _, fun r hr p hp => by
  obtain ⟨x, _, rfl⟩ := List.mem_map.1 hr
  simp only [chR, bdR, List.cons_append, List.nil_append, List.mem_cons, List.not_mem_nil, or_false] at hp
  rcases hp with rfl | rfl | rfl | rfl | rfl | rfl | rfl | rfl | rfl | rfl | rfl | rfl <;> rfl⟩
def demandset_Path_S : Go.Sx.Sys := ⟨[], .stuck, [], some pathF⟩
theorem demandset_Path_ok : SysOk Try.prog 37 demandset_Path_S := ⟨fun _ _ _ => path_ctp⟩
end Go.Proofs.Ythjahianafohjaa
