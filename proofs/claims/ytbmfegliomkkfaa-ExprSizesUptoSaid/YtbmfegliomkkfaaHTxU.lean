/- TX: a function's trees, read over plain values: what they compute. -/
import Derived.Test.YtbmfegliomkkfaaHTxT
set_option linter.unusedSimpArgs false
set_option linter.unusedVariables false
namespace Go.Sx
open Go.RowKit
inductive PT where
  | ret (gen : Bool) (v : SV) (H : List Blk)
  | ite (c : BE) (x y : PT)
  | need (c : BE) (k : PT)
  | load (fl : Bool) (a : SV) (ks : List Kd) (k : PT)
  | app (d : Option Nat) (src : Src) (size : Nat) (k : PT)
  | cut (n : Nat) (lo hi : Option IE) (size : Nat) (k : PT)
  | call (f : Nat) (args : List SV) (H : List Blk) (shs : List Sh) (k : PT)
  | callv (n : Nat) (args : List SV) (shs : List Sh) (k : PT)
  | newM (cs : List SV) (T : Nat) (k : PT)
  | mkM (n : IE) (zero : List SV) (T size bytes : Nat) (k : PT)
  | storeM (a : SV) (cs : List SV) (k : PT)
  | appM (d : SV) (src : Src) (size T : Nat) (k : PT)
  | both (x y : PT)
  | jump (q : Nat) (is : List IE) (bs : List BE) (vs : List SV)
  deriving Inhabited
def bindK : List Kd → List PV → Option (List Int × List Bool × List PV)
  | [], [] => some ([], [], [])
  | .int k :: ks, .int k' z :: l => if k' = k then (bindK ks l).map fun r => (z :: r.1, r.2.1, r.2.2) else none
  | .bool :: ks, .bool b :: l => (bindK ks l).map fun r => (r.1, b :: r.2.1, r.2.2)
  | .val :: ks, p :: l => if p.one then (bindK ks l).map fun r => (r.1, r.2.1, p :: r.2.2) else none
  | _, _ => none
def bind1 : Sh → PV → Option (List Int × List Bool × List PV)
  | .one k, p => bindK [k] [p]
  | .agg ks, .agg l => bindK ks l
  | _, _ => none
def bindShs : List Sh → List PV → Option (List Int × List Bool × List PV)
  | [], [] => some ([], [], [])
  | sh :: shs, p :: l => (bind1 sh p).bind fun a => (bindShs shs l).map fun r => (a.1 ++ r.1, a.2.1 ++ r.2.1, a.2.2 ++ r.2.2)
  | _, _ => none
def bindRes : List Sh → PV → Option (List Int × List Bool × List PV)
  | [sh], r => bind1 sh r
  | shs, .tup l => bindShs shs l
  | _, _ => none
def PEnv.push (ρ : PEnv) (r : List Int × List Bool × List PV) : PEnv := { ρ with i := ρ.i ++ r.1, b := ρ.b ++ r.2.1, v := ρ.v ++ r.2.2 }
inductive Loc where
  | row (l : List PV) (off : Nat)
  | obj (h off : Nat)
  | elt (h len i sz off : Nat)
def locEl (i : Int) (size off : Nat) : PV → Option Loc
  | .sl sz rows => if sz = size ∧ 0 ≤ i then (rows[i.toNat]?).map fun r => .row r off else none
  | .msl h o len _ sz => if 0 ≤ i ∧ i < len ∧ sz = size then some (.obj h (o + (i.toNat * size + off))) else none
  | .rsl h len sz => if 0 ≤ i ∧ i < len ∧ sz = size then some (.elt h len i.toNat sz off) else none
  | _ => none
def locOn (off : Nat) : PV → Option Loc
  | .cell l o => some (.row l (o + off))
  | .ref h o => some (.obj h (o + off))
  | _ => none
def locOf (ρ : PEnv) : SV → Option Loc
  | .ea n i size off => (ρ.v[n]?).bind (locEl (i.pe ρ) size off)
  | .pa n off => (ρ.v[n]?).bind (locOn off)
  | _ => none
def takeN (n : Nat) (l : List PV) : Option (List PV) := if n ≤ l.length then some (l.take n) else none
def MO.list : MO → Option (List PV)
  | .cells l _ => some l
  | .row .. => none
/-- The elements of a row, if the slice is the whole of it. -/
def MO.elts (len sz : Nat) : MO → Option (List (List PV))
  | .row rows sz' _ => if rows.length = len ∧ sz' = sz then some rows else none
  | .cells .. => none
def readLoc (ρ : PEnv) (fl : Bool) (n : Nat) : Loc → Option (List PV)
  | .row l off => takeN n (l.drop off)
  | .obj h off => if fl then none else (ρ.m[h]?).bind fun o => o.list.bind fun l => takeN n (l.drop off)
  | .elt h len i sz off => if fl then none else (ρ.m[h]?).bind fun o => (o.elts len sz).bind fun rows => (rows[i]?).bind fun r => takeN n (r.drop off)
def setP (l : List PV) (o : Nat) (new : List PV) : List PV := l.take o ++ new ++ l.drop (o + new.length)
def PV.rowsOf (size : Nat) : PV → Option (List (List PV))
  | .nilS => some []
  | .sl n rows => if n = size then some rows else none
  | _ => none
def srcRows (ρ : PEnv) (size : Nat) : Src → Option (List (List PV))
  | .lit l => l.mapM (SV.pvs ρ noOwn)
  | .va n => (ρ.v[n]?).bind (PV.rowsOf size)
def loPe (ρ : PEnv) : Option IE → Int
  | some e => e.pe ρ
  | none => 0
def hiPe (ρ : PEnv) : Option IE → Nat → Int
  | some e, _ => e.pe ρ
  | none, n => n
def BE.all (ρ : PEnv) : List BE → Option (List Bool)
  | [] => some []
  | b :: l => if b.safe ρ then (BE.all ρ l).map (b.pe ρ :: ·) else none
mutual
def PV.low (k : Nat) : PV → Bool
  | .ref h _ => decide (h < k)
  | .msl h _ _ _ _ => decide (h < k)
  | .rsl h _ _ => decide (h < k)
  | .sl _ rows => PV.lowss k rows
  | .cell l _ => PV.lows k l
  | .fn _ l => PV.lows k l
  | .agg l => PV.lows k l
  | .tup l => PV.lows k l
  | _ => true
def PV.lows (k : Nat) : List PV → Bool
  | [] => true
  | p :: l => p.low k && PV.lows k l
def PV.lowss (k : Nat) : List (List PV) → Bool
  | [] => true
  | p :: l => PV.lows k p && PV.lowss k l
end
def MO.low (k : Nat) : MO → Bool
  | .cells l _ => PV.lows k l
  | .row rows _ _ => PV.lowss k rows
def rowsN (sz : Nat) : Nat → List PV → Option (List (List PV))
  | 0, _ => some []
  | n + 1, l => if sz ≤ l.length ∧ (l.take sz).all PV.one = true then (rowsN sz n (l.drop sz)).map (l.take sz :: ·) else none
mutual
def PV.frz (k : Nat) (look : Nat → Option MO) : PV → Option PV
  | .ref h off => if h < k then some (.ref h off) else (look h).bind fun o => o.list.map fun l => .cell l off
  | .rsl h len sz => if h < k then some (.rsl h len sz) else (look h).bind fun o => (o.elts len sz).map (.sl sz)
  | .msl h off len cap sz => if h < k then some (.msl h off len cap sz) else (look h).bind fun o => o.list.bind fun l => (if len ≤ cap then rowsN sz len (l.drop off) else none).map (.sl sz)
  | .sl n rows => if PV.lowss k rows then some (.sl n rows) else none
  | .cell l off => if PV.lows k l then some (.cell l off) else none
  | .fn f l => (PV.frzs k look l).map (.fn f)
  | .agg l => (PV.frzs k look l).map .agg
  | .tup l => (PV.frzs k look l).map .tup
  | .int kd z => some (.int kd z)
  | .bool b => some (.bool b)
  | .str s => some (.str s)
  | .undef => some .undef
  | .nilS => some .nilS
  | .nilF => some .nilF
  | .nilP => some .nilP
  | .nilI => some .nilI
def PV.frzs (k : Nat) (look : Nat → Option MO) : List PV → Option (List PV)
  | [] => some []
  | p :: l => (PV.frz k look p).bind fun q => (PV.frzs k look l).map (q :: ·)
end
def PV.frzss (k : Nat) (look : Nat → Option MO) : List (List PV) → Option (List (List PV))
  | [] => some []
  | l :: ls => (PV.frzs k look l).bind fun q => if q.all PV.one = true then (PV.frzss k look ls).map (q :: ·) else none
def lookF (ρ : PEnv) : Nat → Nat → Option MO
  | 0, _ => none
  | d + 1, h => (ρ.m[h]?).bind fun
    | .cells l T => (PV.frzs ρ.k (lookF ρ d) l).map (.cells · T)
    | .row rows sz T => (PV.frzss ρ.k (lookF ρ d) rows).map (.row · sz T)
def retP (ρ : PEnv) (gen : Bool) (p : PV) : Option (PV × List MO) :=
  if gen = true ∨ ρ.m.length = ρ.k then some (p, ρ.m)
  else if (ρ.m.take ρ.k).all (MO.low ρ.k) then (p.frz ρ.k (lookF ρ 3)).map fun q => (q, ρ.m.take ρ.k)
  else none
mutual
def PV.beq : PV → PV → Bool
  | .int k z, .int k' z' => decide (k = k') && decide (z = z')
  | .bool b, .bool b' => b == b'
  | .str s, .str s' => decide (s = s')
  | .undef, .undef | .nilS, .nilS | .nilF, .nilF | .nilP, .nilP | .nilI, .nilI => true
  | .sl n r, .sl n' r' => decide (n = n') && PV.beqss r r'
  | .cell l o, .cell l' o' => decide (o = o') && PV.beqs l l'
  | .ref h o, .ref h' o' => decide (h = h') && decide (o = o')
  | .msl a b c d e, .msl a' b' c' d' e' => decide (a = a') && decide (b = b') && decide (c = c') && decide (d = d') && decide (e = e')
  | .rsl a b c, .rsl a' b' c' => decide (a = a') && decide (b = b') && decide (c = c')
  | .fn f l, .fn f' l' => decide (f = f') && PV.beqs l l'
  | .agg l, .agg l' => PV.beqs l l'
  | .tup l, .tup l' => PV.beqs l l'
  | _, _ => false
def PV.beqs : List PV → List PV → Bool
  | [], [] => true
  | x :: l, y :: m => PV.beq x y && PV.beqs l m
  | _, _ => false
def PV.beqss : List (List PV) → List (List PV) → Bool
  | [], [] => true
  | x :: l, y :: m => PV.beqs x y && PV.beqss l m
  | _, _ => false
end
mutual
theorem PV.beq_eq : ∀ {x y : PV}, PV.beq x y = true → x = y
  | .int .., y, h => by cases y <;> simp [PV.beq] at h; obtain ⟨rfl, rfl⟩ := h; rfl
  | .bool .., y, h => by cases y <;> simp [PV.beq] at h; subst h; rfl
  | .str .., y, h => by cases y <;> simp [PV.beq] at h; subst h; rfl
  | .undef, y, h => by cases y <;> simp [PV.beq] at h; rfl
  | .nilS, y, h => by cases y <;> simp [PV.beq] at h; rfl
  | .nilF, y, h => by cases y <;> simp [PV.beq] at h; rfl
  | .nilP, y, h => by cases y <;> simp [PV.beq] at h; rfl
  | .nilI, y, h => by cases y <;> simp [PV.beq] at h; rfl
  | .sl n r, y, h => by cases y <;> simp [PV.beq] at h; obtain ⟨rfl, h⟩ := h; rw [PV.beqss_eq h]
  | .cell n r, y, h => by cases y <;> simp [PV.beq] at h; obtain ⟨rfl, h⟩ := h; rw [PV.beqs_eq h]
  | .ref .., y, h => by cases y <;> simp [PV.beq] at h; obtain ⟨rfl, rfl⟩ := h; rfl
  | .msl .., y, h => by cases y <;> simp [PV.beq] at h; obtain ⟨⟨⟨⟨rfl, rfl⟩, rfl⟩, rfl⟩, rfl⟩ := h; rfl
  | .rsl .., y, h => by cases y <;> simp [PV.beq] at h; obtain ⟨⟨rfl, rfl⟩, rfl⟩ := h; rfl
  | .fn n r, y, h => by cases y <;> simp [PV.beq] at h; obtain ⟨rfl, h⟩ := h; rw [PV.beqs_eq h]
  | .agg r, y, h => by cases y <;> simp [PV.beq] at h; rw [PV.beqs_eq h]
  | .tup r, y, h => by cases y <;> simp [PV.beq] at h; rw [PV.beqs_eq h]
theorem PV.beqs_eq : ∀ {x y : List PV}, PV.beqs x y = true → x = y
  | [], y, h => by cases y <;> simp [PV.beqs] at h; rfl
  | x :: l, y, h => by
    cases y with
    | nil => simp [PV.beqs] at h
    | cons y m => simp [PV.beqs] at h; rw [PV.beq_eq h.1, PV.beqs_eq h.2]
theorem PV.beqss_eq : ∀ {x y : List (List PV)}, PV.beqss x y = true → x = y
  | [], y, h => by cases y <;> simp [PV.beqss] at h; rfl
  | x :: l, y, h => by
    cases y with
    | nil => simp [PV.beqss] at h
    | cons y m => simp [PV.beqss] at h; rw [PV.beqs_eq h.1, PV.beqss_eq h.2]
end
mutual
theorem PV.beq_self : ∀ x : PV, PV.beq x x = true
  | .int .. => by simp [PV.beq]
  | .bool .. => by simp [PV.beq]
  | .str .. => by simp [PV.beq]
  | .undef => rfl
  | .nilS => rfl
  | .nilF => rfl
  | .nilP => rfl
  | .nilI => rfl
  | .sl n r => by simp [PV.beq, PV.beqss_self r]
  | .cell n r => by simp [PV.beq, PV.beqs_self n]
  | .ref .. => by simp [PV.beq]
  | .msl .. => by simp [PV.beq]
  | .rsl .. => by simp [PV.beq]
  | .fn n r => by simp [PV.beq, PV.beqs_self r]
  | .agg r => by simp [PV.beq, PV.beqs_self r]
  | .tup r => by simp [PV.beq, PV.beqs_self r]
theorem PV.beqs_self : ∀ x : List PV, PV.beqs x x = true
  | [] => rfl
  | x :: l => by simp [PV.beqs, PV.beq_self x, PV.beqs_self l]
theorem PV.beqss_self : ∀ x : List (List PV), PV.beqss x x = true
  | [] => rfl
  | x :: l => by simp [PV.beqss, PV.beqs_self x, PV.beqss_self l]
end
def MO.beqs : List MO → List MO → Bool
  | [], [] => true
  | .cells l T :: x, .cells l' T' :: y => decide (T = T') && PV.beqs l l' && MO.beqs x y
  | .row l n T :: x, .row l' n' T' :: y => decide (T = T') && decide (n = n') && PV.beqss l l' && MO.beqs x y
  | _, _ => false
theorem MO.beqs_eq : ∀ {x y : List MO}, MO.beqs x y = true → x = y
  | [], [], _ => rfl
  | .cells l T :: x, .cells l' T' :: y, h => by
    simp only [MO.beqs, Bool.and_eq_true, decide_eq_true_eq] at h
    obtain ⟨⟨rfl, h1⟩, h2⟩ := h
    rw [PV.beqs_eq h1, MO.beqs_eq h2]
  | .row l n T :: x, .row l' n' T' :: y, h => by
    simp only [MO.beqs, Bool.and_eq_true, decide_eq_true_eq] at h
    obtain ⟨⟨⟨rfl, rfl⟩, h1⟩, h2⟩ := h
    rw [PV.beqss_eq h1, MO.beqs_eq h2]
  | [], _ :: _, h => by simp [MO.beqs] at h
  | .cells _ _ :: _, [], h => by simp [MO.beqs] at h
  | .row .. :: _, [], h => by simp [MO.beqs] at h
  | .cells _ _ :: _, .row .. :: _, h => by simp [MO.beqs] at h
  | .row .. :: _, .cells _ _ :: _, h => by simp [MO.beqs] at h
theorem MO.beqs_self : ∀ x : List MO, MO.beqs x x = true
  | [] => rfl
  | .cells l T :: x => by simp [MO.beqs, PV.beqs_self, MO.beqs_self x]
  | .row l n T :: x => by simp [MO.beqs, PV.beqss_self, MO.beqs_self x]
inductive Res where
  | ret (r : PV) (σ : List MO)
  | jump (q : Nat) (ρ : PEnv)
  deriving Inhabited
def Res.beq : Res → Res → Bool
  | .ret r σ, .ret r' σ' => PV.beq r r' && MO.beqs σ σ'
  | .jump q ρ, .jump q' ρ' => decide (q = q') && decide (ρ.i = ρ'.i) && decide (ρ.b = ρ'.b) && PV.beqs ρ.v ρ'.v && MO.beqs ρ.m ρ'.m && decide (ρ.k = ρ'.k)
  | _, _ => false
theorem Res.beq_eq {x y : Res} (h : Res.beq x y = true) : x = y := by
  cases x <;> cases y <;> simp [Res.beq] at h
  · rw [PV.beq_eq h.1, MO.beqs_eq h.2]
  · rename_i q ρ q' ρ'
    obtain ⟨⟨⟨⟨⟨rfl, h1⟩, h2⟩, h3⟩, h4⟩, h5⟩ := h
    cases ρ; cases ρ'
    simp only at h1 h2 h3 h4 h5
    rw [h1, h2, h5, PV.beqs_eq h3, MO.beqs_eq h4]
theorem Res.beq_self (x : Res) : Res.beq x x = true := by
  cases x <;> simp [Res.beq, PV.beq_self, PV.beqs_self, MO.beqs_self]
abbrev Fns := Nat → List PV → List MO → Option (PV × List MO)
def PT.ev (Φ : Fns) : PT → PEnv → Option Res
  | .ret gen v H, ρ => (v.pv ρ (ownOf ρ H 3)).bind fun p => (retP ρ gen p).map fun r => .ret r.1 r.2
  | .ite c x y, ρ => if c.safe ρ then (if c.pe ρ then x.ev Φ ρ else y.ev Φ ρ) else none
  | .need c k, ρ => if c.safe ρ then (if c.pe ρ then k.ev Φ ρ else none) else none
  | .load fl a ks k, ρ => (locOf ρ a).bind fun l => (readLoc ρ fl ks.length l).bind fun x => (bindK ks x).bind fun r => k.ev Φ (ρ.push r)
  | .app d src size k, ρ => (match d with | none => some [] | some n => (ρ.v[n]?).bind (PV.rowsOf size)).bind fun xs => (srcRows ρ size src).bind fun es =>
      if xs.length + es.length ≤ 1000000 then k.ev Φ { ρ with v := ρ.v ++ [PV.sl size (xs ++ es)] } else none
  | .cut n lo hi size k, ρ => ((ρ.v[n]?).bind (PV.rowsOf size)).bind fun xs =>
      if 0 ≤ loPe ρ lo ∧ loPe ρ lo ≤ hiPe ρ hi xs.length ∧ hiPe ρ hi xs.length ≤ xs.length then k.ev Φ { ρ with v := ρ.v ++ [.sl size ((xs.take (hiPe ρ hi xs.length).toNat).drop (loPe ρ lo).toNat)] } else none
  | .call f args H shs k, ρ => (SV.pvs ρ (ownOf ρ H 3) args).bind fun as => (Φ f as ρ.m).bind fun r => (bindRes shs r.1).bind fun x => k.ev Φ { ρ.push x with m := r.2 }
  | .callv n args shs k, ρ => match ρ.v[n]? with
    | some (.fn f cap) => (SV.pvs ρ noOwn args).bind fun as => (Φ f (as ++ cap) ρ.m).bind fun r => (bindRes shs r.1).bind fun x => k.ev Φ { ρ.push x with m := r.2 }
    | _ => none
  | .newM cs T k, ρ => (SV.pvs ρ noOwn cs).bind fun l => k.ev Φ { ρ with v := ρ.v ++ [.ref ρ.m.length 0], m := ρ.m ++ [.cells l T] }
  | .mkM n zero T size bytes k, ρ => (SV.pvs ρ noOwn zero).bind fun z =>
      if 0 ≤ n.pe ρ ∧ n.pe ρ ≤ 1000000 ∧ bytes ≤ 100000000 then k.ev Φ { ρ with v := ρ.v ++ [.msl ρ.m.length 0 (n.pe ρ).toNat (n.pe ρ).toNat size], m := ρ.m ++ [.cells (List.replicate (n.pe ρ).toNat z).flatten T] } else none
  | .storeM a cs k, ρ => match locOf ρ a with
    | some (.obj h off) => match ρ.m[h]? with
      | some (.cells l T) => (SV.pvs ρ noOwn cs).bind fun new => if off + new.length ≤ l.length then k.ev Φ { ρ with m := ρ.m.set h (.cells (setP l off new) T) } else none
      | _ => none
    | some (.elt h len i sz off) => match ρ.m[h]? with
      | some (.row rows sz' T) => if rows.length = len ∧ sz' = sz then (rows[i]?).bind fun r => (SV.pvs ρ noOwn cs).bind fun new => if off + new.length ≤ r.length ∧ new.all PV.one = true then k.ev Φ { ρ with m := ρ.m.set h (.row (rows.set i (setP r off new)) sz' T) } else none else none
      | _ => none
    | _ => none
  | .appM d src size T k, ρ => (d.pv ρ noOwn).bind fun p => (srcRows ρ size src).bind fun es => match p with
    | .nilS => if es.length ≤ 1000000 then (if es.length = 0 then k.ev Φ { ρ with v := ρ.v ++ [.nilS] } else k.ev Φ { ρ with v := ρ.v ++ [.rsl ρ.m.length es.length size], m := ρ.m ++ [.row es size T] }) else none
    | .rsl h len sz => match ρ.m[h]? with
      | some (.row rows sz' T') => if rows.length = len ∧ sz = size ∧ sz' = size ∧ T' = T ∧ len + es.length ≤ 1000000 then
          (if es.length = 0 then k.ev Φ { ρ with v := ρ.v ++ [.rsl h len sz] } else k.ev Φ { ρ with v := ρ.v ++ [.rsl h (len + es.length) size], m := ρ.m.set h (.row (rows ++ es) size T) }) else none
      | _ => none
    | _ => none
  | .both x y, ρ => (x.ev Φ ρ).bind fun r => (y.ev Φ ρ).bind fun r' => if Res.beq r r' then some r else none
  | .jump q is bs vs, ρ => (BE.all ρ bs).bind fun b => (SV.pvs ρ noOwn vs).map fun v => .jump q { i := is.map (IE.pe ρ), b, v, m := ρ.m, k := ρ.k }
def ksOf : List SV → Option (List Kd)
  | [] => some []
  | .int k (.a _) :: l => (ksOf l).map (.int k :: ·)
  | .bool (.a _) :: l => (ksOf l).map (.bool :: ·)
  | .va _ :: l => (ksOf l).map (.val :: ·)
  | _ => none
def shOf1 : SV → Option Sh
  | .agg cs => (ksOf cs).map .agg
  | v => (ksOf [v]).bind fun | [k] => some (.one k) | _ => none
def shsOf : SV → Option (List Sh)
  | .tup l => l.mapM shOf1
  | v => (shOf1 v).map ([·])
def inferS : SV → SV → List (Nat × IE) × List (Nat × BE) × List (Nat × SV) × List (Nat × SV) → List (Nat × IE) × List (Nat × BE) × List (Nat × SV) × List (Nat × SV)
  | .int _ (.a n), .int _ e, (a, b, c, d) => ((n, e) :: a, b, c, d)
  | .bool (.a n), .bool e, (a, b, c, d) => (a, (n, e) :: b, c, d)
  | .va n, x, (a, b, c, d) => (a, b, (n, x) :: c, d)
  | .junk n, x, (a, b, c, d) => (a, b, c, (n, x) :: d)
  | .pa n _, .pa m _, (a, b, c, d) => (a, b, (n, .va m) :: c, d)
  | .ea n (.a q) _ _, .ea m e _ _, (a, b, c, d) => ((q, e) :: a, b, (n, .va m) :: c, d)
  | .agg l, .agg m, acc => (l.zip m).foldl (fun acc (x : SV × SV) => match x with
    | (.int _ (.a n), .int _ e) => ((n, e) :: acc.1, acc.2)
    | (.bool (.a n), .bool e) => (acc.1, (n, e) :: acc.2.1, acc.2.2)
    | (.va n, y) => (acc.1, acc.2.1, (n, y) :: acc.2.2.1, acc.2.2.2)
    | (.junk n, y) => (acc.1, acc.2.1, acc.2.2.1, (n, y) :: acc.2.2.2)
    | (.pa n _, .pa m _) => (acc.1, acc.2.1, (n, .va m) :: acc.2.2.1, acc.2.2.2)
    | (.fn _ l, .fn _ m) => (l.zip m).foldl (fun acc (x : SV × SV) => match x with
      | (.int _ (.a n), .int _ e) => ((n, e) :: acc.1, acc.2)
      | (.va n, y) => (acc.1, acc.2.1, (n, y) :: acc.2.2.1, acc.2.2.2)
      | (.pa n _, .pa m _) => (acc.1, acc.2.1, (n, .va m) :: acc.2.2.1, acc.2.2.2)
      | _ => acc) acc
    | _ => acc) acc
  | .fn _ l, .fn _ m, acc => (l.zip m).foldl (fun acc (x : SV × SV) => match x with
    | (.int _ (.a n), .int _ e) => ((n, e) :: acc.1, acc.2)
    | (.va n, y) => (acc.1, acc.2.1, (n, y) :: acc.2.2.1, acc.2.2.2)
    | (.pa n _, .pa m _) => (acc.1, acc.2.1, (n, .va m) :: acc.2.2.1, acc.2.2.2)
    | _ => acc) acc
  | _, _, acc => acc
def inferB : Blk → Blk → List (Nat × IE) × List (Nat × BE) × List (Nat × SV) × List (Nat × SV) → List (Nat × IE) × List (Nat × BE) × List (Nat × SV) × List (Nat × SV)
  | .cells l _ _, .cells m _ _, acc => (l.zip m).foldl (fun acc (x : SV × SV) => inferS x.1 x.2 acc) acc
  | .row n _ _, .row m _ _, acc => (acc.1, acc.2.1, acc.2.2.1 ++ [(n, .va m)], acc.2.2.2)
  | .row n _ _, _, acc => (acc.1, acc.2.1, acc.2.2.1 ++ [(n, .nilS)], acc.2.2.2)
  | _, _, acc => acc
def infer (t g : Cfg) : Asg :=
  let r := (t.H.zipIdx).foldl (fun acc (x : Blk × Nat) => inferB x.1 (g.H.getD x.2 (.cells [] 0 false)) acc) ((t.sl.zip g.sl).foldl (fun acc (x : SV × SV) => inferS x.1 x.2 acc) ([], [], [], []))
  ⟨(List.range t.ni).map fun n => (r.1.lookup n).getD (.l 0), (List.range t.nb).map fun n => (r.2.1.lookup n).getD (.t true), (List.range t.nv).map fun n => (r.2.2.1.lookup n).getD .nilS, (List.range t.nj).map fun n => (r.2.2.2.lookup n).getD .undef⟩
def headOk (t : Cfg) : Bool := match t.todo with | .dreg _ _ _ :: _ => false | _ => true
def findJ (g : Cfg) : List Cfg → Nat → Option (Nat × Asg)
  | [], _ => none
  | t :: l, q => if decide (t.todo = g.todo) && fits ⟨0, 0, 0, 0⟩ (infer t g) t g && headOk t then some (q, infer t g) else findJ g l (q + 1)
def srcFlat : Src → Bool
  | .lit l => l.all fun x => x.all SV.flat
  | .va _ => true
def srcLen (n : Nat) : Src → Bool
  | .lit l => l.all fun x => decide (x.length = n)
  | .va _ => true
def comp (pats : List Cfg) : Out → Nat → Nat → Nat → Option PT
  | .ret gen v H, _, _, _ => some (.ret gen v H)
  | .ite c x y, a, b, d => (comp pats x a b d).bind fun x => (comp pats y a b d).map fun y => .ite c x y
  | .need c k, a, b, d => (comp pats k a b d).map (.need c)
  | .load fl x cs di db dv k, a, b, d => (ksOf cs).bind fun ks =>
      if SV.beqs (fillK ks a b d).1 cs && decide ((fillK ks a b d).2 = (a + di, b + db, d + dv)) then (comp pats k (a + di) (b + db) (d + dv)).map (.load fl x ks) else none
  | .app n src size bytes k, a, b, d => if srcFlat src && decide (bytes ≤ 100000000) then (comp pats k a b (d + 1)).map (.app n src size) else none
  | .cut n lo hi size k, a, b, d => (comp pats k a b (d + 1)).map (.cut n lo hi size)
  | .hole .., _, _, _ => none
  | .fill .., _, _, _ => none
  | .call f args H res di db dv k, a, b, d => (shsOf res).bind fun shs =>
      if SV.beq (tupOf (fillSh shs a b d).1) res && decide ((fillSh shs a b d).2 = (a + di, b + db, d + dv)) then (comp pats k (a + di) (b + db) (d + dv)).map (.call f args H shs) else none
  | .callv n args res di db dv k, a, b, d => (shsOf res).bind fun shs =>
      if SV.beq (tupOf (fillSh shs a b d).1) res && decide ((fillSh shs a b d).2 = (a + di, b + db, d + dv)) then (comp pats k (a + di) (b + db) (d + dv)).map (.callv n args shs) else none
  | .newM cs T k, a, b, d => (comp pats k a b (d + 1)).map (.newM cs T)
  | .mkM n zero T size bytes k, a, b, d => if zero.length = size then (comp pats k a b (d + 1)).map (.mkM n zero T size bytes) else none
  | .storeM x cs k, a, b, d => (comp pats k a b d).map (.storeM x cs)
  | .appM x src size bytes T k, a, b, d => if srcFlat src && srcLen size src && decide (bytes ≤ 100000000) && decide (0 < size) && x.flat then (comp pats k a b (d + 1)).map (.appM x src size T) else none
  | .both x y, a, b, d => (comp pats x a b d).bind fun x => (comp pats y a b d).map fun y => .both x y
  | .stop g, _, _, _ => (findJ g pats 0).map fun r => .jump r.1 r.2.is r.2.bs r.2.vs
  | .fail _, _, _, _ => none
inductive PSh where
  | sh (s : Sh)
  | ptr
  deriving Inhabited
structure Sys where
  ps : List PSh
  start : PT
  loops : List PT
  deriving Inhabited
def PV.isPtr : PV → Bool
  | .cell .. | .ref .. => true
  | _ => false
def bindPs : List PSh → List PV → Option (List Int × List Bool × List PV)
  | [], [] => some ([], [], [])
  | .sh s :: shs, p :: l => (bind1 s p).bind fun a => (bindPs shs l).map fun r => (a.1 ++ r.1, a.2.1 ++ r.2.1, a.2.2 ++ r.2.2)
  | .ptr :: shs, p :: l => if p.isPtr then (bindPs shs l).map fun r => (r.1, r.2.1, p :: r.2.2) else none
  | _, _ => none
def fillPs : List PSh → Nat → Nat → Nat → List SV × Nat × Nat × Nat
  | [], a, b, c => ([], a, b, c)
  | .sh s :: l, a, b, c => let r := fillSh [s] a b c; let q := fillPs l r.2.1 r.2.2.1 r.2.2.2; (r.1 ++ q.1, q.2)
  | .ptr :: l, a, b, c => let q := fillPs l a b (c + 1); (.pa c 0 :: q.1, q.2)
def Sys.loop (Φ : Fns) (S : Sys) : Nat → Nat → PEnv → Option (PV × List MO)
  | 0, _, _ => none
  | n + 1, q, ρ => (S.loops[q]?).bind fun t => (t.ev Φ ρ).bind fun
    | .ret r σ => some (r, σ)
    | .jump q' ρ' => S.loop Φ n q' ρ'
def Sys.run (Φ : Fns) (S : Sys) (n : Nat) (as : List PV) (σ : List MO) : Option (PV × List MO) :=
  (bindPs S.ps as).bind fun r => (S.start.ev Φ { i := r.1, b := r.2.1, v := r.2.2, m := σ, k := σ.length }).bind fun
    | .ret r σ => some (r, σ)
    | .jump q ρ => S.loop Φ n q ρ
def evalF (Tab : Nat → Option Sys) : Nat → Fns
  | 0, _, _, _ => none
  | n + 1, f, as, σ => (Tab f).bind fun S => S.run (evalF Tab n) n as σ
end Go.Sx
