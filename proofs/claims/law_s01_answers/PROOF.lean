import PyProof.Rows.All
import Wide.All
import OpenK.AllK
import Wide.FinOn
import Open.SpecLaws
import KE.OsGo
import PyProof.NeKinds
import HandS.ForMost
import HandS.Set
import HandS.SetFor
import HandS.Strs
import HandS.SortInts
import HandS.Style
import HandS.ForSpec
import HandS.NoneIn
import PySem.Challenge.RW_stallbook_s01_answers
set_option Elab.async false
set_option linter.all false
set_option maxRecDepth 100000
set_option maxHeartbeats 4000000
/-! # The mirror: the book as plain Lean, each def of the program one total function -/
namespace SB
/-- an order as it lies: its address, the kind and the trigger that lie there, and what the specification knows of it -/
structure O where
  adr : Nat
  k : Int
  t : Int
  s : Sd17.Order
structure B where
  rs : List O
  ws : List O
  lat : Nat
  auc : Bool
  ev : List Sd17.Ev
def ab (m : B) : Sd17.Book := ⟨m.rs.map (·.s), m.ws.map (·.s), m.lat, m.auc⟩
def B.new : B := ⟨[], [], 0, false, []⟩
def priced (k : Int) : Bool := decide (k ≠ 1) && decide (k ≠ 5)
def O.accepts (o : O) (p : Nat) : Bool := if priced o.k = true then (if o.s.buy = true then decide (p ≤ o.s.price) else decide (o.s.price ≤ p)) else true
def O.before (o f : O) : Bool := if o.s.buy = true then decide (f.s.price < o.s.price) else decide (o.s.price < f.s.price)
def O.pulled (o : O) (p : Nat) : Bool := if o.s.buy = true then decide (o.t ≤ (p : Int)) else decide ((p : Int) ≤ o.t)
def O.amt (o : O) (n : Nat) : O := { o with s := { o.s with amount := n } }
def O.calm (o : O) : O := { o with s := { o.s with kind := 0 } }
def O.awake (o : O) : O := { o with s := { o.s with kind := if o.s.kind = 5 then 1 else 0 } }
def beats (o : O) : Option O → Bool
  | none => true
  | some x => o.before x
def bestStep (buy : Bool) (f : Option O) (o : O) : Option O := if (o.s.buy == buy && beats o f) = true then some o else f
def best (l : List O) (buy : Bool) : Option O := l.foldl (bestStep buy) none
def bestFor (m : B) (o : O) : Option O := match best m.rs (!o.s.buy) with
  | none => none
  | some f => if o.accepts f.s.price = true then some f else none
def B.tell (m : B) (e : Sd17.Ev) : B := { m with ev := m.ev ++ [e] }
def out (n : Nat) (l : List O) : List O := l.filter fun o => decide (o.s.id ≠ n)
def B.takeOut (m : B) (n : Nat) : B := { m with rs := out n m.rs, ws := out n m.ws }
def setA (a n : Nat) (l : List O) : List O := l.map fun o => if o.adr = a then o.amt n else o
def B.setAmt (m : B) (a n : Nat) : B := { m with rs := setA a n m.rs, ws := setA a n m.ws }
def B.at (m : B) (p : Nat) : B := { m with lat := p }
def B.trade (m : B) (f s : O) (p : Nat) : B :=
  (((m.setAmt f.adr (f.s.amount - min f.s.amount s.s.amount)).setAmt s.adr (s.s.amount - min f.s.amount s.s.amount)).at p).tell (.trade f.s.id s.s.id p (min f.s.amount s.s.amount) (s.s.amount - min f.s.amount s.s.amount))
/-- an order with so much left is gone where that is nothing -/
def B.done (m : B) (id n : Nat) : B := if n = 0 then m.takeOut id else m
def B.gone (m : B) (r : O) : B := (m.takeOut r.s.id).tell (.ended r.s.id 5 r.s.price r.s.amount)
def meet (m : B) (o r : O) : O × B :=
  if r.s.who = o.s.who then (o, m.gone r)
  else (o.amt (o.s.amount - min o.s.amount r.s.amount), (m.trade o r r.s.price).done r.s.id (r.s.amount - min o.s.amount r.s.amount))
def tradeAll : Nat → O → B → O × B
  | 0, o, m => (o, m)
  | k + 1, o, m => if o.s.amount = 0 then (o, m) else match bestFor m o with
    | none => (o, m)
    | some r => tradeAll k (meet m o r).1 (meet m o r).2
def others (m : B) (o : O) : Nat := ((m.rs.filter fun r => r.s.buy != o.s.buy && (r.s.who != o.s.who && o.accepts r.s.price)).map fun r => r.s.amount).sum
def B.rest (m : B) (o : O) : B := B.tell { m with rs := m.rs ++ [o.calm] } (.rests o.s.id o.s.price o.s.amount)
def B.fin (m : B) (o : O) (why : Nat) : B := m.tell (.ended o.s.id why o.s.price o.s.amount)
def leave (m : B) (o : O) : B := if o.k = 0 ∨ o.k = 4 ∨ o.k = 6 then m.rest o else m.fin o 2
/-- what is done with what is left -/
def leaves (x : O × B) : B := if x.1.s.amount = 0 then x.2 else leave x.2 x.1
def come (m : B) (o : O) : B :=
  if o.k = 3 ∧ others m o < o.s.amount then m.fin o 3
  else if o.k = 4 ∧ (bestFor m o).isSome = true then m.fin o 4
  else leaves (tradeAll (m.rs.length + 1) o m)
def trig (m : B) : List O := if m.lat = 0 then [] else m.ws.filter fun o => o.pulled m.lat
def fire (m : B) (o : O) : B := (m.takeOut o.s.id).tell (.triggered o.s.id m.lat)
def fired (m : B) : B := (trig m).foldl fire m
def chain : Nat → List O → B → B
  | 0, _, m => m
  | _ + 1, [], m => m
  | k + 1, o :: r, m => chain k (r ++ trig (come m o.awake)) (fired (come m o.awake))
def trigAll (m : B) : B := chain (m.ws.length + 1) (trig m) (fired m)
def take1 (m : B) (o : O) : B := if o.k = 5 ∨ o.k = 6 then { m with ws := m.ws ++ [o] } else if m.auc = true then m.rest o else come m o
def take (m : B) (o : O) : B := if m.auc = true then take1 m o else trigAll (take1 m o)
def cancel (m : B) (o : O) : B := (m.takeOut o.s.id).fin o 1
def O.like (o : O) (x p a : Nat) : O := ⟨x, 0, 0, { o.s with price := p, amount := a }⟩
def change (m : B) (o : O) (x p a : Nat) : B :=
  if p = o.s.price ∧ a ≤ o.s.amount then (m.setAmt o.adr a).tell (.rests o.s.id p a)
  else take (m.takeOut o.s.id) (o.like x p a)
def cross (m : B) (x y : O) (p : Nat) : B :=
  ((m.trade x y p).done x.s.id (x.s.amount - min x.s.amount y.s.amount)).done y.s.id (y.s.amount - min x.s.amount y.s.amount)
def both (m : B) (p : Nat) : Option (O × O) := match best m.rs true, best m.rs false with
  | some x, some y => if (x.accepts p && y.accepts p) = true then some (x, y) else none
  | _, _ => none
def tradeAt (p : Nat) : Nat → B → B
  | 0, m => m
  | k + 1, m => match both m p with
    | none => m
    | some x => tradeAt p k (cross m x.1 x.2 p)
def priceNow (m : B) : Nat := (Sd17.clearing (ab m)).getD 0
def endAuc (m : B) : B :=
  trigAll (if 0 < priceNow { m with auc := false } then tradeAt (priceNow { m with auc := false }) (m.rs.length + 1) { m with auc := false } else { m with auc := false })
def side (m : B) (buy : Bool) : List Nat := match best m.rs buy with
  | none => [0, 0]
  | some o => [o.s.price, ((m.rs.filter fun r => r.s.buy == buy && decide (r.s.price = o.s.price)).map fun r => r.s.amount).sum]
def seen (m : B) : List Nat := side m true ++ side m false ++ [m.lat, if m.auc = true then priceNow m else 0]
end SB

/-! # The mathematics: the mirror is the specification -/
namespace SB
def ids (l : List O) : List Nat := l.map (·.s.id)
def adrs (l : List O) : List Nat := l.map (·.adr)
def spc (l : List O) : List Sd17.Order := l.map (·.s)
theorem ids_app (a b : List O) : ids (a ++ b) = ids a ++ ids b := List.map_append
theorem adrs_app (a b : List O) : adrs (a ++ b) = adrs a ++ adrs b := List.map_append
theorem spc_app (a b : List O) : spc (a ++ b) = spc a ++ spc b := List.map_append
structure RestOk (o : O) : Prop where
  kind : o.s.kind = 0
  k : o.k = 0 ∨ o.k = 4 ∨ o.k = 6
  id : 1 ≤ o.s.id
  am : 1 ≤ o.s.amount
  pr : 1 ≤ o.s.price
structure WaitOk (o : O) : Prop where
  k : o.k = (o.s.kind : Int)
  kk : o.s.kind = 5 ∨ o.s.kind = 6
  t : o.t = (o.s.trigger : Int)
  id : 1 ≤ o.s.id
  am : 1 ≤ o.s.amount
  pr : o.s.kind = 6 → 1 ≤ o.s.price
structure LiveOk (o : O) : Prop where
  k : (o.k = 0 ∧ o.s.kind = 0) ∨ (o.k = 1 ∧ o.s.kind = 1) ∨ (o.k = 2 ∧ o.s.kind = 2) ∨ (o.k = 3 ∧ o.s.kind = 3) ∨ (o.k = 4 ∧ o.s.kind = 4) ∨ (o.k = 5 ∧ o.s.kind = 1) ∨ (o.k = 6 ∧ o.s.kind = 0)
  id : 1 ≤ o.s.id
  pr : o.s.kind ≠ 1 → 1 ≤ o.s.price
/-- a book and orders beside it: no number and no address twice -/
structure Gd (q : List O) (m : B) : Prop where
  nid : (ids (q ++ (m.rs ++ m.ws))).Nodup
  nad : (adrs (q ++ (m.rs ++ m.ws))).Nodup
  rok : ∀ o ∈ m.rs, RestOk o
  wok : ∀ o ∈ m.ws, WaitOk o

/-! ## lists -/
theorem nodup_key {α β : Type} {f : α → β} : ∀ {l : List α}, (l.map f).Nodup → ∀ {a b : α}, a ∈ l → b ∈ l → f a = f b → a = b
  | [], _, _, _, h, _, _ => absurd h (by simp)
  | x :: l, hn, a, b, ha, hb, e => by
    rw [List.map_cons, List.nodup_cons] at hn
    rcases List.mem_cons.mp ha with ea | ha' <;> rcases List.mem_cons.mp hb with eb | hb'
    · rw [ea, eb]
    · subst ea
      exact absurd (List.mem_map.mpr ⟨b, hb', e.symm⟩) hn.1
    · subst eb
      exact absurd (List.mem_map.mpr ⟨a, ha', e⟩) hn.1
    · exact nodup_key hn.2 ha' hb' e
theorem out_gone (n : Nat) (l : List O) : spc (out n l) = Sd17.gone n (spc l) := by
  unfold out Sd17.gone spc
  rw [List.filter_map]
  congr 1
  apply List.filter_congr
  intro o _
  show decide (o.s.id ≠ n) = (o.s.id != n)
  by_cases h : o.s.id = n
  · simp [h]
  · simp [h, bne]
theorem out_other {n : Nat} {l : List O} (h : n ∉ ids l) : out n l = l := by
  unfold out
  apply List.filter_eq_self.mpr
  intro o ho
  exact decide_eq_true fun e => h (List.mem_map.mpr ⟨o, ho, e⟩)
theorem gone_other {n : Nat} {l : List O} (h : n ∉ ids l) : Sd17.gone n (spc l) = spc l := by
  rw [← out_gone, out_other h]
theorem setA_other {a n : Nat} {l : List O} (h : a ∉ adrs l) : setA a n l = l := by
  unfold setA
  conv => rhs; rw [← List.map_id l]
  apply List.map_congr_left
  intro o ho
  show (if o.adr = a then o.amt n else o) = o
  rw [if_neg fun e => h (List.mem_map.mpr ⟨o, ho, e⟩)]
theorem setA_key {β : Type} (f : O → β) (hf : ∀ o n, f (o.amt n) = f o) (a n : Nat) (l : List O) : (setA a n l).map f = l.map f := by
  unfold setA
  rw [List.map_map]
  apply List.map_congr_left
  intro o _
  show f (if o.adr = a then o.amt n else o) = f o
  split
  · exact hf _ _
  · rfl
theorem setA_ids (a n : Nat) (l : List O) : ids (setA a n l) = ids l := setA_key (fun o => o.s.id) (fun _ _ => rfl) a n l
theorem setA_adrs (a n : Nat) (l : List O) : adrs (setA a n l) = adrs l := setA_key (fun o => o.adr) (fun _ _ => rfl) a n l
theorem setA_length (a n : Nat) (l : List O) : (setA a n l).length = l.length := List.length_map _
theorem out_sub (n : Nat) (l : List O) : (out n l).Sublist l := List.filter_sublist
theorem out_length (n : Nat) (l : List O) : (out n l).length ≤ l.length := (out_sub n l).length_le
theorem out_less {l : List O} {o : O} (h : o ∈ l) : (out o.s.id l).length < l.length := by
  unfold out
  apply Nat.lt_of_le_of_ne (List.length_filter_le _ _)
  intro e
  have q := (List.length_filter_eq_length_iff.mp e) o h
  exact (of_decide_eq_true q) rfl
theorem mem_setA {a n : Nat} {l : List O} {o : O} (h : o ∈ setA a n l) : (o ∈ l ∧ o.adr ≠ a) ∨ ∃ r ∈ l, r.adr = a ∧ o = r.amt n := by
  obtain ⟨r, hr, e⟩ := List.mem_map.mp h
  by_cases c : r.adr = a
  · rw [if_pos c] at e
    exact .inr ⟨r, hr, c, e.symm⟩
  · rw [if_neg c] at e
    subst e
    exact .inl ⟨hr, c⟩
theorem mem_out {n : Nat} {l : List O} {o : O} : o ∈ out n l ↔ o ∈ l ∧ o.s.id ≠ n := by
  unfold out
  rw [List.mem_filter, decide_eq_true_iff]

/-! ## the best -/
theorem best_go (buy : Bool) : ∀ (l : List O) (f : Option O), (∀ x, f = some x → x.s.buy = buy) →
    ((spc l).filter fun o => o.buy == buy).foldl (fun m o => match m with
      | none => some o
      | some x => if Sd17.better buy o.price x.price = true then some o else some x) (f.map (·.s)) = (l.foldl (bestStep buy) f).map (·.s)
  | [], f, _ => rfl
  | o :: l, f, hf => by
    show (((o.s :: spc l).filter fun o => o.buy == buy).foldl _ _) = ((o :: l).foldl (bestStep buy) f).map (·.s)
    rw [List.foldl_cons, List.filter_cons]
    by_cases hb : o.s.buy = buy
    · have e1 : (o.s.buy == buy) = true := by rw [hb]; exact beq_self_eq_true _
      rw [if_pos e1, List.foldl_cons]
      have e2 : (match f.map (·.s) with
          | none => some o.s
          | some x => if Sd17.better buy o.s.price x.price = true then some o.s else some x) = (bestStep buy f o).map (·.s) := by
        cases f with
        | none =>
          show some o.s = _
          unfold bestStep
          rw [e1]
          rfl
        | some x =>
          have hx := hf x rfl
          show (if Sd17.better buy o.s.price x.s.price = true then some o.s else some x.s) = _
          have e3 : Sd17.better buy o.s.price x.s.price = o.before x := by
            unfold Sd17.better O.before
            rw [hb]
          rw [e3]
          unfold bestStep
          rw [e1]
          show _ = Option.map _ (if o.before x = true then _ else _)
          by_cases c : o.before x = true
          · rw [if_pos c, if_pos c]; rfl
          · rw [if_neg c, if_neg c]; rfl
      rw [e2]
      apply best_go buy l
      intro x hx
      unfold bestStep at hx
      by_cases c : (o.s.buy == buy && beats o f) = true
      · rw [if_pos c] at hx
        cases hx
        exact hb
      · rw [if_neg c] at hx
        exact hf x hx
    · have e1 : (o.s.buy == buy) = false := by
        cases h : (o.s.buy == buy)
        · rfl
        · exact absurd (eq_of_beq h) hb
      rw [e1]
      have e2 : bestStep buy f o = f := by
        unfold bestStep
        rw [e1]
        rfl
      rw [e2]
      exact best_go buy l f hf
theorem best_sim (l : List O) (buy : Bool) : Sd17.best buy (spc l) = (best l buy).map (·.s) := best_go buy l none fun _ h => nomatch h
theorem best_in (buy : Bool) (P : O → Prop) : ∀ (l : List O) (f : Option O), (∀ x, f = some x → P x ∧ x.s.buy = buy) → (∀ x ∈ l, P x) → ∀ x, l.foldl (bestStep buy) f = some x → P x ∧ x.s.buy = buy
  | [], f, hf, _, x, h => hf x h
  | o :: l, f, hf, hl, x, h => by
    refine best_in buy P l (bestStep buy f o) (fun y hy => ?_) (fun y hy => hl y (List.mem_cons_of_mem _ hy)) x h
    unfold bestStep at hy
    by_cases c : (o.s.buy == buy && beats o f) = true
    · rw [if_pos c] at hy
      cases hy
      rw [Bool.and_eq_true] at c
      exact ⟨hl _ List.mem_cons_self, eq_of_beq c.1⟩
    · rw [if_neg c] at hy
      exact hf y hy
theorem best_mem {l : List O} {buy : Bool} {x : O} (h : best l buy = some x) : x ∈ l ∧ x.s.buy = buy :=
  best_in buy (fun x => x ∈ l) l none (fun _ h => nomatch h) (fun _ h => h) x h
theorem takes_of_k {o : O} {p : Nat} (h : priced o.k = true ↔ o.s.kind ≠ 1) : o.accepts p = Sd17.takes o.s p := by
  unfold O.accepts Sd17.takes
  by_cases c : o.s.kind = 1
  · have e : ¬ priced o.k = true := fun z => h.mp z c
    rw [if_neg e, c]
    rfl
  · have e : priced o.k = true := h.mpr c
    rw [if_pos e]
    have e2 : (o.s.kind == 1) = false := by simp [c]
    rw [e2]
    rfl
theorem LiveOk.takes {o : O} (h : LiveOk o) (p : Nat) : o.accepts p = Sd17.takes o.s p := by
  apply takes_of_k
  unfold priced
  rcases h.k with ⟨a, b⟩ | ⟨a, b⟩ | ⟨a, b⟩ | ⟨a, b⟩ | ⟨a, b⟩ | ⟨a, b⟩ | ⟨a, b⟩ <;> rw [a, b] <;> decide
theorem RestOk.takes {o : O} (h : RestOk o) (p : Nat) : o.accepts p = Sd17.takes o.s p := by
  apply takes_of_k
  unfold priced
  rw [h.kind]
  rcases h.k with a | a | a <;> rw [a] <;> decide
theorem bestFor_sim {m : B} {o : O} (h : LiveOk o) : ((bestFor m o).map (·.s)) = (match Sd17.best (!o.s.buy) (spc m.rs) with
    | none => none
    | some r => if Sd17.takes o.s r.price = true then some r else none) := by
  rw [best_sim]
  unfold bestFor
  cases best m.rs (!o.s.buy) with
  | none => rfl
  | some f =>
    show Option.map _ (if o.accepts f.s.price = true then some f else none) = if Sd17.takes o.s f.s.price = true then some f.s else none
    rw [h.takes]
    split <;> rfl
theorem bestFor_mem {m : B} {o r : O} (h : bestFor m o = some r) : r ∈ m.rs ∧ r.s.buy = !o.s.buy := by
  unfold bestFor at h
  cases e : best m.rs (!o.s.buy) with
  | none => rw [e] at h; cases h
  | some f =>
    rw [e] at h
    by_cases c : o.accepts f.s.price = true
    · have h' : (if o.accepts f.s.price = true then some f else none) = some r := h
      rw [if_pos c] at h'
      cases h'
      exact best_mem e
    · have h' : (if o.accepts f.s.price = true then some f else none) = some r := h
      rw [if_neg c] at h'
      cases h'

/-! ## what stands apart -/
theorem Gd.ids_q {q : List O} {m : B} (g : Gd q m) {o : O} (ho : o ∈ q) : o.s.id ∉ ids m.rs ∧ o.s.id ∉ ids m.ws := by
  have h := g.nid
  rw [ids_app, ids_app, List.nodup_append] at h
  have hm : o.s.id ∈ ids q := List.mem_map.mpr ⟨o, ho, rfl⟩
  exact ⟨fun z => h.2.2 _ hm _ (List.mem_append_left _ z) rfl, fun z => h.2.2 _ hm _ (List.mem_append_right _ z) rfl⟩
theorem Gd.adrs_q {q : List O} {m : B} (g : Gd q m) {o : O} (ho : o ∈ q) : o.adr ∉ adrs m.rs ∧ o.adr ∉ adrs m.ws := by
  have h := g.nad
  rw [adrs_app, adrs_app, List.nodup_append] at h
  have hm : o.adr ∈ adrs q := List.mem_map.mpr ⟨o, ho, rfl⟩
  exact ⟨fun z => h.2.2 _ hm _ (List.mem_append_left _ z) rfl, fun z => h.2.2 _ hm _ (List.mem_append_right _ z) rfl⟩
theorem Gd.nid_rs {q : List O} {m : B} (g : Gd q m) : (ids m.rs).Nodup := by
  have h := g.nid
  rw [ids_app, ids_app, List.nodup_append, List.nodup_append] at h
  exact h.2.1.1
theorem Gd.nad_rs {q : List O} {m : B} (g : Gd q m) : (adrs m.rs).Nodup := by
  have h := g.nad
  rw [adrs_app, adrs_app, List.nodup_append, List.nodup_append] at h
  exact h.2.1.1
theorem Gd.nid_ws {q : List O} {m : B} (g : Gd q m) : (ids m.ws).Nodup := by
  have h := g.nid
  rw [ids_app, ids_app, List.nodup_append, List.nodup_append] at h
  exact h.2.1.2.1
theorem Gd.rs_ws {q : List O} {m : B} (g : Gd q m) {o : O} (h : o ∈ m.rs) : o.s.id ∉ ids m.ws ∧ o.adr ∉ adrs m.ws := by
  have h1 := g.nid
  rw [ids_app, ids_app, List.nodup_append, List.nodup_append] at h1
  have h2 := g.nad
  rw [adrs_app, adrs_app, List.nodup_append, List.nodup_append] at h2
  exact ⟨fun z => h1.2.1.2.2 _ (List.mem_map.mpr ⟨o, h, rfl⟩) _ z rfl, fun z => h2.2.1.2.2 _ (List.mem_map.mpr ⟨o, h, rfl⟩) _ z rfl⟩
theorem Gd.ws_rs {q : List O} {m : B} (g : Gd q m) {o : O} (h : o ∈ m.ws) : o.s.id ∉ ids m.rs ∧ o.adr ∉ adrs m.rs := by
  have h1 := g.nid
  rw [ids_app, ids_app, List.nodup_append, List.nodup_append] at h1
  have h2 := g.nad
  rw [adrs_app, adrs_app, List.nodup_append, List.nodup_append] at h2
  exact ⟨fun z => h1.2.1.2.2 _ z _ (List.mem_map.mpr ⟨o, h, rfl⟩) rfl, fun z => h2.2.1.2.2 _ z _ (List.mem_map.mpr ⟨o, h, rfl⟩) rfl⟩
theorem sub3 {q a b a' b' : List O} (h1 : a'.Sublist a) (h2 : b'.Sublist b) : (q ++ (a' ++ b')).Sublist (q ++ (a ++ b)) :=
  (List.Sublist.refl q).append (h1.append h2)
theorem Gd.takeOut {q : List O} {m : B} (g : Gd q m) (n : Nat) : Gd q (m.takeOut n) :=
  ⟨(g.nid).sublist ((sub3 (out_sub n m.rs) (out_sub n m.ws)).map _), (g.nad).sublist ((sub3 (out_sub n m.rs) (out_sub n m.ws)).map _),
    fun o h => g.rok o ((out_sub n m.rs).subset h), fun o h => g.wok o ((out_sub n m.ws).subset h)⟩
theorem Gd.tell {q : List O} {m : B} (g : Gd q m) (e : Sd17.Ev) : Gd q (m.tell e) := ⟨g.nid, g.nad, g.rok, g.wok⟩
theorem Gd.less {q : List O} {o : O} {m : B} (g : Gd (o :: q) m) : Gd q m := by
  refine ⟨?_, ?_, g.rok, g.wok⟩
  · have h := g.nid
    rw [List.cons_append] at h
    exact (List.nodup_cons.mp h).2
  · have h := g.nad
    rw [List.cons_append] at h
    exact (List.nodup_cons.mp h).2
/-- one amount changed: of an order that rests, to what is more than nothing -/
theorem Gd.setAmt {q : List O} {m : B} {r : O} (g : Gd q m) (hr : r ∈ m.rs) {n : Nat} (hn : 1 ≤ n) : Gd q (m.setAmt r.adr n) := by
  have hw : setA r.adr n m.ws = m.ws := setA_other (g.rs_ws hr).2
  refine ⟨?_, ?_, ?_, ?_⟩
  · show (ids (q ++ (setA r.adr n m.rs ++ setA r.adr n m.ws))).Nodup
    rw [hw, ids_app, ids_app, setA_ids, ← ids_app, ← ids_app]
    exact g.nid
  · show (adrs (q ++ (setA r.adr n m.rs ++ setA r.adr n m.ws))).Nodup
    rw [hw, adrs_app, adrs_app, setA_adrs, ← adrs_app, ← adrs_app]
    exact g.nad
  · intro o ho
    rcases mem_setA ho with ⟨h, _⟩ | ⟨r', h, _, rfl⟩
    · exact g.rok o h
    · have x := g.rok r' h
      exact ⟨x.kind, x.k, x.id, hn, x.pr⟩
  · intro o ho
    have ho' : o ∈ setA r.adr n m.ws := ho
    rw [hw] at ho'
    exact g.wok o ho'
/-- the specification's left -/
theorem left_sim {l : List O} {r : O} (hid : (ids l).Nodup) (had : (adrs l).Nodup) (hr : r ∈ l) (n : Nat) :
    Sd17.left r.s.id n (spc l) = if n = 0 then spc (out r.s.id l) else spc (setA r.adr n l) := by
  unfold Sd17.left
  by_cases h : n = 0
  · rw [if_pos h, if_pos h, out_gone]
  · rw [if_neg h, if_neg h]
    unfold spc setA
    rw [List.map_map, List.map_map]
    apply List.map_congr_left
    intro o ho
    show (if o.s.id = r.s.id then { o.s with amount := n } else o.s) = (if o.adr = r.adr then o.amt n else o).s
    by_cases c : o = r
    · subst c
      rw [if_pos rfl, if_pos rfl]
      rfl
    · rw [if_neg fun e => c (nodup_key (f := fun o : O => o.s.id) hid ho hr e), if_neg fun e => c (nodup_key (f := fun o : O => o.adr) had ho hr e)]
theorem out_setA {l : List O} {r : O} (had : (adrs l).Nodup) (hr : r ∈ l) (n : Nat) : out r.s.id (setA r.adr n l) = out r.s.id l := by
  unfold out setA
  rw [List.filter_map]
  have e : List.filter ((fun o : O => decide (o.s.id ≠ r.s.id)) ∘ fun o => if o.adr = r.adr then o.amt n else o) l = List.filter (fun o => decide (o.s.id ≠ r.s.id)) l := by
    apply List.filter_congr
    intro o _
    show decide ((if o.adr = r.adr then o.amt n else o).s.id ≠ r.s.id) = decide (o.s.id ≠ r.s.id)
    split <;> rfl
  rw [e]
  conv => rhs; rw [← List.map_id (List.filter _ l)]
  apply List.map_congr_left
  intro o ho
  rw [List.mem_filter] at ho
  show (if o.adr = r.adr then o.amt n else o) = o
  rw [if_neg]
  intro e2
  have := nodup_key (f := fun o : O => o.adr) had ho.1 hr e2
  subst this
  exact (of_decide_eq_true ho.2) rfl
end SB

namespace SB
/-! ## an order that comes -/
theorem amt_amt (o : O) (a b : Nat) : (o.amt a).amt b = o.amt b := rfl
theorem LiveOk.amt {o : O} (h : LiveOk o) (n : Nat) : LiveOk (o.amt n) := ⟨h.k, h.id, h.pr⟩
theorem Gd.amt {q : List O} {o : O} {m : B} (g : Gd (o :: q) m) (n : Nat) : Gd (o.amt n :: q) m := ⟨g.nid, g.nad, g.rok, g.wok⟩
/-- what a trade of an order outside with one that rests makes of the book -/
theorem trade_rs {q : List O} {o r : O} {m : B} (g : Gd (o :: q) m) (hr : r ∈ m.rs) (p : Nat) :
    m.trade o r p = { rs := setA r.adr (r.s.amount - min o.s.amount r.s.amount) m.rs, ws := m.ws, lat := p, auc := m.auc, ev := m.ev ++ [.trade o.s.id r.s.id p (min o.s.amount r.s.amount) (r.s.amount - min o.s.amount r.s.amount)] } := by
  obtain ⟨h1, h2⟩ := g.adrs_q (o := o) List.mem_cons_self
  have h3 := (g.rs_ws hr).2
  show B.mk (setA r.adr _ (setA o.adr _ m.rs)) (setA r.adr _ (setA o.adr _ m.ws)) p m.auc _ = _
  rw [setA_other h1, setA_other h2, setA_other h3]
  rfl
theorem done_sim {q : List O} {r : O} {m m1 : B} {n : Nat} (g : Gd q m) (hr : r ∈ m.rs) (h1 : m1.rs = setA r.adr n m.rs) (h2 : m1.ws = m.ws) :
    (m1.done r.s.id n).ws = m.ws ∧ spc (m1.done r.s.id n).rs = Sd17.left r.s.id n (spc m.rs) ∧ (m1.done r.s.id n).lat = m1.lat ∧ (m1.done r.s.id n).auc = m1.auc ∧ (m1.done r.s.id n).ev = m1.ev ∧ (m1.done r.s.id n).rs.length ≤ m.rs.length ∧
      (n = 0 → (m1.done r.s.id n).rs.length < m.rs.length) ∧ ∀ o ∈ (m1.done r.s.id n).rs, (o ∈ m.rs ∧ o.adr ≠ r.adr) ∨ (o = r.amt n ∧ n ≠ 0) := by
  have hno := (g.rs_ws hr).1
  rw [left_sim g.nid_rs g.nad_rs hr]
  unfold B.done
  by_cases h : n = 0
  · rw [if_pos h, if_pos h]
    have e : out r.s.id m1.rs = out r.s.id m.rs := by rw [h1, out_setA g.nad_rs hr]
    refine ⟨?_, ?_, rfl, rfl, rfl, ?_, fun _ => ?_, fun o ho => ?_⟩
    · show out r.s.id m1.ws = m.ws
      rw [h2, out_other hno]
    · show spc (out r.s.id m1.rs) = _
      rw [e]
    · show (out r.s.id m1.rs).length ≤ _
      rw [e]
      exact out_length _ _
    · show (out r.s.id m1.rs).length < _
      rw [e]
      exact out_less hr
    · have ho' : o ∈ out r.s.id m1.rs := ho
      rw [e, mem_out] at ho'
      refine .inl ⟨ho'.1, fun z => ?_⟩
      have := nodup_key (f := fun o : O => o.adr) g.nad_rs ho'.1 hr z
      subst this
      exact ho'.2 rfl
  · rw [if_neg h, if_neg h]
    refine ⟨h2, by rw [h1], rfl, rfl, rfl, by rw [h1, setA_length]; exact Nat.le_refl _, fun z => absurd z h, fun o ho => ?_⟩
    rw [h1] at ho
    rcases mem_setA ho with ⟨a, b⟩ | ⟨r', a, b, c⟩
    · exact .inl ⟨a, b⟩
    · have := nodup_key (f := fun o : O => o.adr) g.nad_rs a hr b
      subst this
      exact .inr ⟨c, h⟩
theorem Gd.eqs {q : List O} {m m' : B} (g : Gd q m) (h1 : (ids m'.rs).Sublist (ids m.rs)) (h2 : (adrs m'.rs).Sublist (adrs m.rs)) (h3 : m'.ws = m.ws) (h4 : ∀ o ∈ m'.rs, RestOk o) : Gd q m' := by
  refine ⟨?_, ?_, h4, by rw [h3]; exact g.wok⟩
  · refine g.nid.sublist ?_
    rw [ids_app, ids_app, ids_app, ids_app, h3]
    exact (List.Sublist.refl _).append (h1.append (List.Sublist.refl _))
  · refine g.nad.sublist ?_
    rw [adrs_app, adrs_app, adrs_app, adrs_app, h3]
    exact (List.Sublist.refl _).append (h2.append (List.Sublist.refl _))
theorem done_keys {r : O} {m m1 : B} {n : Nat} (h1 : m1.rs = setA r.adr n m.rs) : (ids (m1.done r.s.id n).rs).Sublist (ids m.rs) ∧ (adrs (m1.done r.s.id n).rs).Sublist (adrs m.rs) := by
  have a : (ids m1.rs) = ids m.rs := by rw [h1, setA_ids]
  have b : (adrs m1.rs) = adrs m.rs := by rw [h1, setA_adrs]
  rw [← a, ← b]
  unfold B.done
  by_cases h : n = 0
  · rw [if_pos h]
    exact ⟨(out_sub _ _).map _, (out_sub _ _).map _⟩
  · rw [if_neg h]
    exact ⟨List.Sublist.refl _, List.Sublist.refl _⟩
theorem Gd.done {q : List O} {r : O} {m m1 : B} {n : Nat} (g : Gd q m) (hr : r ∈ m.rs) (h1 : m1.rs = setA r.adr n m.rs) (h2 : m1.ws = m.ws) : Gd q (m1.done r.s.id n) := by
  obtain ⟨e1, _, _, _, _, _, _, e8⟩ := done_sim g hr h1 h2
  obtain ⟨k1, k2⟩ := done_keys (m := m) h1
  refine g.eqs k1 k2 e1 fun o ho => ?_
  rcases e8 o ho with ⟨a, _⟩ | ⟨rfl, b⟩
  · exact g.rok o a
  · have x := g.rok r hr
    exact ⟨x.kind, x.k, x.id, Nat.pos_of_ne_zero b, x.pr⟩
/-- one meeting -/
structure Met (q : List O) (o : O) (m : B) (x : O × B) : Prop where
  gd : Gd (x.1 :: q) x.2
  am : ∃ n, x.1 = o.amt n ∧ n ≤ o.s.amount
  ws : x.2.ws = m.ws
  auc : x.2.auc = m.auc
  len : x.2.rs.length ≤ m.rs.length
  ev : ∃ evs, x.2.ev = m.ev ++ evs
  more : 1 ≤ x.1.s.amount → x.1 = o.amt x.1.s.amount
theorem meet_met {q : List O} {o r : O} {m : B} (g : Gd (o :: q) m) (hr : r ∈ m.rs) : Met q o m (meet m o r) := by
  unfold meet
  by_cases c : r.s.who = o.s.who
  · rw [if_pos c]
    refine ⟨(g.takeOut _).tell _, ⟨o.s.amount, rfl, Nat.le_refl _⟩, ?_, rfl, ?_, ⟨_, rfl⟩, fun _ => rfl⟩
    · exact out_other (g.rs_ws hr).1
    · exact out_length _ _
  · rw [if_neg c]
    have e := trade_rs g hr r.s.price
    have h1 : (m.trade o r r.s.price).rs = setA r.adr (r.s.amount - min o.s.amount r.s.amount) m.rs := by rw [e]
    have h2 : (m.trade o r r.s.price).ws = m.ws := by rw [e]
    obtain ⟨e1, _, e3, e4, e5, e6, _, _⟩ := done_sim g hr h1 h2
    refine ⟨(g.done hr h1 h2).amt _, ⟨_, rfl, Nat.sub_le _ _⟩, e1, ?_, e6, ?_, fun _ => rfl⟩
    · exact e4.trans (by rw [e])
    · exact ⟨_, e5.trans (by rw [e])⟩
/-- each meeting brings the end nearer -/
def far (o : O) (m : B) : Nat := m.rs.length + if o.s.amount = 0 then 0 else 1
theorem meet_far {q : List O} {o r : O} {m : B} (g : Gd (o :: q) m) (hr : r ∈ m.rs) (ha : o.s.amount ≠ 0) : far (meet m o r).1 (meet m o r).2 < far o m := by
  unfold far
  rw [if_neg ha]
  unfold meet
  by_cases c : r.s.who = o.s.who
  · rw [if_pos c]
    show (out r.s.id m.rs).length + _ < _
    rw [if_neg ha]
    exact Nat.add_lt_add_right (out_less hr) 1
  · rw [if_neg c]
    have e := trade_rs g hr r.s.price
    have h1 : (m.trade o r r.s.price).rs = setA r.adr (r.s.amount - min o.s.amount r.s.amount) m.rs := by rw [e]
    have h2 : (m.trade o r r.s.price).ws = m.ws := by rw [e]
    obtain ⟨_, _, _, _, _, e6, e7, _⟩ := done_sim g hr h1 h2
    show ((m.trade o r r.s.price).done r.s.id (r.s.amount - min o.s.amount r.s.amount)).rs.length + (if o.s.amount - min o.s.amount r.s.amount = 0 then 0 else 1) < _
    by_cases z : o.s.amount ≤ r.s.amount
    · rw [if_pos (by omega)]
      omega
    · have := e7 (by omega)
      split <;> omega
theorem ab_of {m : B} {a b : List Sd17.Order} {l : Nat} {u : Bool} (h1 : spc m.rs = a) (h2 : spc m.ws = b) (h3 : m.lat = l) (h4 : m.auc = u) : ab m = ⟨a, b, l, u⟩ := by
  subst h1 h2 h3 h4
  rfl
/-- all that can be is traded -/
theorem tradeAll_met : ∀ (k : Nat) (q : List O) (o : O) (m : B), Gd (o :: q) m → Met q o m (tradeAll k o m)
  | 0, q, o, m, g => ⟨g, ⟨o.s.amount, rfl, Nat.le_refl _⟩, rfl, rfl, Nat.le_refl _, ⟨[], (List.append_nil _).symm⟩, fun _ => rfl⟩
  | k + 1, q, o, m, g => by
    have stay : Met q o m (o, m) := ⟨g, ⟨o.s.amount, rfl, Nat.le_refl _⟩, rfl, rfl, Nat.le_refl _, ⟨[], (List.append_nil _).symm⟩, fun _ => rfl⟩
    unfold tradeAll
    by_cases c : o.s.amount = 0
    · rw [if_pos c]
      exact stay
    · rw [if_neg c]
      cases e : bestFor m o with
      | none => exact stay
      | some r =>
        have M := meet_met g (bestFor_mem e).1
        have N := tradeAll_met k q _ _ M.gd
        obtain ⟨n1, a1, b1⟩ := M.am
        obtain ⟨n2, a2, b2⟩ := N.am
        obtain ⟨v1, w1⟩ := M.ev
        obtain ⟨v2, w2⟩ := N.ev
        refine ⟨N.gd, ⟨n2, ?_, ?_⟩, N.ws.trans M.ws, N.auc.trans M.auc, Nat.le_trans N.len M.len, ⟨v1 ++ v2, ?_⟩, fun _ => ?_⟩
        · show (tradeAll k _ _).1 = _
          rw [a2, a1]
          rfl
        · rw [a1] at b2
          exact Nat.le_trans b2 b1
        · show (tradeAll k _ _).2.ev = _
          rw [w2, w1, List.append_assoc]
        · show (tradeAll k _ _).1 = _
          rw [a2, a1]
          rfl
theorem tradeAll_sim : ∀ (k : Nat) (q : List O) (o : O) (m : B), Gd (o :: q) m → LiveOk o →
    ∃ evs, Sd17.meet k o.s (ab m) = ((tradeAll k o m).1.s, ab (tradeAll k o m).2, evs) ∧ (tradeAll k o m).2.ev = m.ev ++ evs
  | 0, q, o, m, g, lo => ⟨[], rfl, (List.append_nil _).symm⟩
  | k + 1, q, o, m, g, lo => by
    unfold tradeAll Sd17.meet
    by_cases c : o.s.amount = 0
    · rw [if_pos c, if_pos c]
      exact ⟨[], rfl, (List.append_nil _).symm⟩
    · rw [if_neg c, if_neg c]
      have hb := bestFor_sim (m := m) lo
      have hb0 : (ab m).rest = spc m.rs := rfl
      rw [hb0]
      cases e : bestFor m o with
      | none =>
        rw [e] at hb
        refine ⟨[], ?_, (List.append_nil _).symm⟩
        cases e2 : Sd17.best (!o.s.buy) (spc m.rs) with
        | none => rfl
        | some f =>
          rw [e2] at hb
          have hb' : none = (if Sd17.takes o.s f.price = true then some f else none) := hb
          have cf : Sd17.takes o.s f.price = false := by
            cases q : Sd17.takes o.s f.price with
            | false => rfl
            | true => rw [q, if_pos rfl] at hb'; cases hb'
          show (if Sd17.takes o.s f.price = false then _ else _) = _
          rw [if_pos cf]
      | some r =>
        obtain ⟨hr, hside⟩ := bestFor_mem e
        rw [e] at hb
        have e2 : Sd17.best (!o.s.buy) (spc m.rs) = some r.s ∧ Sd17.takes o.s r.s.price = true := by
          cases e2 : Sd17.best (!o.s.buy) (spc m.rs) with
          | none => rw [e2] at hb; cases hb
          | some f =>
            rw [e2] at hb
            have hb' : some r.s = (if Sd17.takes o.s f.price = true then some f else none) := hb
            cases q : Sd17.takes o.s f.price with
            | false => rw [q, if_neg Bool.false_ne_true] at hb'; cases hb'
            | true =>
              rw [q, if_pos rfl] at hb'
              cases hb'
              exact ⟨rfl, q⟩
        rw [e2.1]
        show ∃ evs, (if Sd17.takes o.s r.s.price = false then _ else _) = ((tradeAll k (meet m o r).1 (meet m o r).2).1.s, ab (tradeAll k (meet m o r).1 (meet m o r).2).2, evs) ∧ (tradeAll k (meet m o r).1 (meet m o r).2).2.ev = m.ev ++ evs
        rw [if_neg (by rw [e2.2]; decide)]
        have M := meet_met g hr
        have lo1 : LiveOk (meet m o r).1 := by
          obtain ⟨n, a, _⟩ := M.am
          rw [a]
          exact lo.amt n
        obtain ⟨evs, s1, s2⟩ := tradeAll_sim k q (meet m o r).1 (meet m o r).2 M.gd lo1
        by_cases w : r.s.who = o.s.who
        · rw [if_pos w]
          have em : meet m o r = (o, m.gone r) := by unfold meet; rw [if_pos w]
          rw [em] at s1 s2 ⊢
          have eb : ({ ab m with rest := Sd17.gone r.s.id (spc m.rs) } : Sd17.Book) = ab (m.gone r) :=
            (ab_of (m := m.gone r) (out_gone _ _) (show spc (out r.s.id m.ws) = spc m.ws by rw [out_other (g.rs_ws hr).1]) rfl rfl).symm
          rw [eb, s1]
          refine ⟨_, rfl, ?_⟩
          show (tradeAll k o (m.gone r)).2.ev = _
          rw [s2]
          show (m.ev ++ [_]) ++ evs = m.ev ++ _ :: evs
          rw [List.append_assoc]
          rfl
        · rw [if_neg w]
          have em : meet m o r = (o.amt (o.s.amount - min o.s.amount r.s.amount), (m.trade o r r.s.price).done r.s.id (r.s.amount - min o.s.amount r.s.amount)) := by unfold meet; rw [if_neg w]
          have et := trade_rs g hr r.s.price
          have h1 : (m.trade o r r.s.price).rs = setA r.adr (r.s.amount - min o.s.amount r.s.amount) m.rs := by rw [et]
          have h2 : (m.trade o r r.s.price).ws = m.ws := by rw [et]
          obtain ⟨e1, e2, e3, e4, e5, _, _, _⟩ := done_sim g hr h1 h2
          rw [em] at s1 s2 ⊢
          have eb : ({ rest := Sd17.left r.s.id (r.s.amount - min o.s.amount r.s.amount) (spc m.rs), stops := (ab m).stops, last := r.s.price, auction := (ab m).auction } : Sd17.Book) = ab ((m.trade o r r.s.price).done r.s.id (r.s.amount - min o.s.amount r.s.amount)) :=
            (ab_of e2 (by rw [e1]; rfl) (e3.trans (by rw [et])) (e4.trans (by rw [et]; rfl))).symm
          dsimp only
          rw [eb]
          have s1' : Sd17.meet k { id := o.s.id, who := o.s.who, buy := o.s.buy, kind := o.s.kind, price := o.s.price, amount := o.s.amount - min o.s.amount r.s.amount, trigger := o.s.trigger } (ab ((m.trade o r r.s.price).done r.s.id (r.s.amount - min o.s.amount r.s.amount))) = _ := s1
          rw [s1']
          refine ⟨_, rfl, ?_⟩
          show (tradeAll k _ _).2.ev = _
          rw [s2, e5, et]
          show (m.ev ++ [_]) ++ evs = m.ev ++ _ :: evs
          rw [List.append_assoc]
          rfl
end SB

/-! # The calls, mirrored -/
namespace SB
def priceOk (n : Int) : Bool := decide (1 ≤ n) && decide (n ≤ 1000000)
def stopK (k : Int) : Bool := decide (k = 5) || decide (k = 6)
def isOrd (nu ow si ki pr am tr : Int) : Bool := decide (1 ≤ nu) && (decide (1 ≤ ow) && decide (ow ≤ 255)) && (decide (0 ≤ si) && decide (si ≤ 1)) && (decide (0 ≤ ki) && decide (ki ≤ 6)) && (!priced ki || priceOk pr) && (!stopK ki || priceOk tr) && priceOk am
def mkO (x : Nat) (nu ow si ki pr am tr : Int) : O := ⟨x, ki, tr, Sd17.clean (Sd17Neutral.orderOf [nu, ow, si, ki, pr, am, tr])⟩
def toldOf (es : List Sd17.Ev) : List Int := (es.length : Int) :: (es.flatMap Sd17.numbers).map fun n : Nat => (n : Int)
def B.clear (m : B) : B := { m with ev := [] }
def saysM (m : B) : B × List Int := (m.clear, toldOf m.ev)
def has (l : List O) (n : Int) : Option O := l.find? fun o => decide ((o.s.id : Int) = n)
def orderM (m : B) (x : Nat) (nu ow si ki pr am tr : Int) : B × List Int :=
  if (!isOrd nu ow si ki pr am tr || (has (m.rs ++ m.ws) nu).isSome) = true then (m, [-1])
  else if 1024 ≤ m.rs.length + m.ws.length then (m, [-2])
  else if (m.auc && (decide (1 ≤ ki) && decide (ki ≤ 4))) = true then (m, [-2])
  else saysM (take m (mkO x nu ow si ki pr am tr))
def cancelM (m : B) (n : Int) : B × List Int := match has (m.rs ++ m.ws) n with
  | none => (m, [-1])
  | some o => saysM (cancel m o)
def changeM (m : B) (x : Nat) (n p a : Int) : B × List Int := match has m.rs n with
  | none => (m, [-1])
  | some o => if (priceOk p && priceOk a) = true then saysM (change m o x p.toNat a.toNat) else (m, [-1])
def auctionM (m : B) (on : Int) : B × List Int :=
  if m.auc = decide (on ≠ 0) then (m, [-1]) else if on ≠ 0 then saysM { m with auc := true } else saysM (endAuc m)
def lookM (m : B) : B × List Int := (m, 0 :: (seen m).map fun n : Nat => (n : Int))
/-- a call as it is handed in: its number, its numbers -/
def isCall : List Int → Prop
  | [1, _, _, _, _, _, _, _] => True
  | [2, _] => True
  | [3, _, _, _] => True
  | [4, _] => True
  | [5] => True
  | _ => False
def stepM (m : B) (x : Nat) : List Int → B × List Int
  | [1, nu, ow, si, ki, pr, am, tr] => orderM m x nu ow si ki pr am tr
  | [2, n] => cancelM m n
  | [3, n, p, a] => changeM m x n p a
  | [4, on] => auctionM m on
  | _ => lookM m
end SB

/-! # The mathematics: an order that comes, stops -/
namespace SB
theorem meet_ev (m : B) (o r : O) : (meet m o r).2.ev.length = m.ev.length + 1 := by
  unfold meet
  by_cases c : r.s.who = o.s.who
  · rw [if_pos c]
    show (m.ev ++ [_]).length = _
    rw [List.length_append]
    rfl
  · rw [if_neg c]
    unfold B.done
    split
    · show (m.ev ++ [_]).length = _
      rw [List.length_append]
      rfl
    · show (m.ev ++ [_]).length = _
      rw [List.length_append]
      rfl
theorem meet_adr (m : B) (o r : O) : (meet m o r).1.adr = o.adr := by
  unfold meet
  split <;> rfl
theorem tradeAll_stop {k : Nat} {o : O} {m : B} (h : o.s.amount = 0 ∨ bestFor m o = none) : tradeAll k o m = (o, m) := by
  cases k with
  | zero => rfl
  | succ k =>
    unfold tradeAll
    rcases h with h | h
    · rw [if_pos h]
    · rw [h]
      split <;> rfl
theorem tradeAll_go {k : Nat} {o r : O} {m : B} (h : ¬ o.s.amount = 0) (e : bestFor m o = some r) : tradeAll (k + 1) o m = tradeAll k (meet m o r).1 (meet m o r).2 := by
  conv => lhs; unfold tradeAll
  rw [if_neg h, e]
/-- what is done of an order that came -/
structure Done (q : List O) (m : B) (x : B) : Prop where
  gd : Gd q x
  ws : x.ws = m.ws
  auc : x.auc = m.auc
  len : x.rs.length ≤ m.rs.length + 1
  ev : ∃ evs, x.ev = m.ev ++ evs
theorem Gd.rest {q : List O} {o : O} {m : B} (g : Gd (o :: q) m) (h : RestOk o.calm) : Gd q (m.rest o) := by
  have p1 : (q ++ ((m.rs ++ [o.calm]) ++ m.ws)).Perm (o.calm :: q ++ (m.rs ++ m.ws)) := by
    have a : (q ++ ((m.rs ++ [o.calm]) ++ m.ws)) = (q ++ m.rs) ++ (o.calm :: m.ws) := by simp
    have b : (o.calm :: q ++ (m.rs ++ m.ws)) = o.calm :: ((q ++ m.rs) ++ m.ws) := by simp
    rw [a, b]
    exact List.perm_middle
  refine ⟨?_, ?_, fun x hx => ?_, g.wok⟩
  · refine ((p1.map fun o : O => o.s.id).nodup_iff).mpr ?_
    exact g.nid
  · refine ((p1.map fun o : O => o.adr).nodup_iff).mpr ?_
    exact g.nad
  · rcases List.mem_append.mp hx with hx | hx
    · exact g.rok x hx
    · rw [List.mem_singleton.mp hx]
      exact h
theorem LiveOk.rests {o : O} (h : LiveOk o) (ha : 1 ≤ o.s.amount) (hk : o.k = 0 ∨ o.k = 4 ∨ o.k = 6) : RestOk o.calm := by
  refine ⟨rfl, hk, h.id, ha, h.pr ?_⟩
  rcases h.k with ⟨a, b⟩ | ⟨a, b⟩ | ⟨a, b⟩ | ⟨a, b⟩ | ⟨a, b⟩ | ⟨a, b⟩ | ⟨a, b⟩ <;> omega
theorem leave_done {q : List O} {o : O} {m : B} (g : Gd (o :: q) m) (lo : LiveOk o) (ha : 1 ≤ o.s.amount) : Done q m (leave m o) := by
  unfold leave
  by_cases c : o.k = 0 ∨ o.k = 4 ∨ o.k = 6
  · rw [if_pos c]
    refine ⟨g.rest (lo.rests ha c), rfl, rfl, ?_, ⟨_, rfl⟩⟩
    show (m.rs ++ [o.calm]).length ≤ _
    rw [List.length_append]
    exact Nat.le_refl _
  · rw [if_neg c]
    exact ⟨g.less.tell _, rfl, rfl, Nat.le_succ _, ⟨_, rfl⟩⟩
theorem leave_ev (m : B) (o : O) : (leave m o).ev.length = m.ev.length + 1 := by
  unfold leave
  split
  · show (m.ev ++ [_]).length = _
    rw [List.length_append]
    rfl
  · show (m.ev ++ [_]).length = _
    rw [List.length_append]
    rfl
theorem come_done {q : List O} {o : O} {m : B} (g : Gd (o :: q) m) (lo : LiveOk o) : Done q m (come m o) := by
  unfold come
  by_cases c1 : o.k = 3 ∧ others m o < o.s.amount
  · rw [if_pos c1]
    exact ⟨g.less.tell _, rfl, rfl, Nat.le_succ _, ⟨_, rfl⟩⟩
  · rw [if_neg c1]
    by_cases c2 : o.k = 4 ∧ (bestFor m o).isSome = true
    · rw [if_pos c2]
      exact ⟨g.less.tell _, rfl, rfl, Nat.le_succ _, ⟨_, rfl⟩⟩
    · rw [if_neg c2]
      have M := tradeAll_met (m.rs.length + 1) q o m g
      generalize tradeAll (m.rs.length + 1) o m = x at M
      unfold leaves
      by_cases z : x.1.s.amount = 0
      · rw [if_pos z]
        exact ⟨M.gd.less, M.ws, M.auc, Nat.le_succ_of_le M.len, M.ev⟩
      · rw [if_neg z]
        have lx : LiveOk x.1 := by
          obtain ⟨n, a, _⟩ := M.am
          rw [a]
          exact lo.amt n
        have D := leave_done M.gd lx (Nat.pos_of_ne_zero z)
        obtain ⟨e1, f1⟩ := M.ev
        obtain ⟨e2, f2⟩ := D.ev
        exact ⟨D.gd, D.ws.trans M.ws, D.auc.trans M.auc, Nat.le_trans D.len (Nat.succ_le_succ M.len), ⟨e1 ++ e2, by rw [f2, f1, List.append_assoc]⟩⟩
theorem filter_sum_congr (l : List O) (p : O → Bool) (q : Sd17.Order → Bool) (h : ∀ o ∈ l, p o = q o.s) : ((l.filter p).map fun r => r.s.amount).sum = (((spc l).filter q).map fun r => r.amount).sum := by
  unfold spc
  rw [List.filter_map, List.map_map, List.filter_congr h]
  rfl
theorem ready_sim {m : B} {o : O} (lo : LiveOk o) : Sd17.ready o.s (ab m) = others m o := by
  unfold Sd17.ready others
  symm
  apply filter_sum_congr
  intro r _
  rw [lo.takes, Bool.and_comm (r.s.who != o.s.who)]
theorem come_sim {q : List O} {o : O} {m : B} (g : Gd (o :: q) m) (lo : LiveOk o) : ∃ evs, Sd17.come o.s (ab m) = (ab (come m o), evs) ∧ (come m o).ev = m.ev ++ evs := by
  have k3 : o.k = 3 ↔ o.s.kind = 3 := by rcases lo.k with ⟨a, b⟩ | ⟨a, b⟩ | ⟨a, b⟩ | ⟨a, b⟩ | ⟨a, b⟩ | ⟨a, b⟩ | ⟨a, b⟩ <;> rw [a, b] <;> decide
  have k4 : o.k = 4 ↔ o.s.kind = 4 := by rcases lo.k with ⟨a, b⟩ | ⟨a, b⟩ | ⟨a, b⟩ | ⟨a, b⟩ | ⟨a, b⟩ | ⟨a, b⟩ | ⟨a, b⟩ <;> rw [a, b] <;> decide
  have k0 : (o.k = 0 ∨ o.k = 4 ∨ o.k = 6) ↔ (o.s.kind = 0 ∨ o.s.kind = 4) := by rcases lo.k with ⟨a, b⟩ | ⟨a, b⟩ | ⟨a, b⟩ | ⟨a, b⟩ | ⟨a, b⟩ | ⟨a, b⟩ | ⟨a, b⟩ <;> rw [a, b] <;> decide
  unfold Sd17.come come
  rw [ready_sim lo]
  by_cases c1 : o.k = 3 ∧ others m o < o.s.amount
  · rw [if_pos c1, if_pos ⟨k3.mp c1.1, c1.2⟩]
    exact ⟨_, rfl, rfl⟩
  · rw [if_neg c1, if_neg fun z => c1 ⟨k3.mpr z.1, z.2⟩]
    have hb := bestFor_sim (m := m) lo
    have e4 : ((Sd17.best (!o.s.buy) (ab m).rest).map fun r => Sd17.takes o.s r.price) = some true ↔ (bestFor m o).isSome = true := by
      have hb0 : (ab m).rest = spc m.rs := rfl
      rw [hb0]
      cases e : Sd17.best (!o.s.buy) (spc m.rs) with
      | none =>
        rw [e] at hb
        cases f : bestFor m o with
        | none => simp
        | some r => rw [f] at hb; cases hb
      | some x =>
        rw [e] at hb
        have hb' : Option.map (fun x => x.s) (bestFor m o) = if Sd17.takes o.s x.price = true then some x else none := hb
        cases t : Sd17.takes o.s x.price with
        | true =>
          rw [t, if_pos rfl] at hb'
          cases f : bestFor m o with
          | none => rw [f] at hb'; cases hb'
          | some r => simp [t]
        | false =>
          rw [t, if_neg Bool.false_ne_true] at hb'
          cases f : bestFor m o with
          | none => simp [t]
          | some r => rw [f] at hb'; cases hb'
    by_cases c2 : o.k = 4 ∧ (bestFor m o).isSome = true
    · rw [if_pos c2, if_pos ⟨k4.mp c2.1, e4.mpr c2.2⟩]
      exact ⟨_, rfl, rfl⟩
    · rw [if_neg c2, if_neg fun z => c2 ⟨k4.mpr z.1, e4.mp z.2⟩]
      have hl : (ab m).rest.length = m.rs.length := List.length_map _
      rw [hl]
      obtain ⟨evs, s1, s2⟩ := tradeAll_sim (m.rs.length + 1) q o m g lo
      have M := tradeAll_met (m.rs.length + 1) q o m g
      rw [s1]
      generalize tradeAll (m.rs.length + 1) o m = x at M s2 ⊢
      dsimp only
      unfold leaves
      by_cases z : x.1.s.amount = 0
      · rw [if_pos z, if_pos z]
        exact ⟨_, rfl, s2⟩
      · rw [if_neg z, if_neg z]
        obtain ⟨n, a, _⟩ := M.am
        have xk : x.1.k = o.k := by rw [a]; rfl
        have xi : x.1.s.id = o.s.id := by rw [a]; rfl
        have xp : x.1.s.price = o.s.price := by rw [a]; rfl
        unfold leave
        by_cases c : o.k = 0 ∨ o.k = 4 ∨ o.k = 6
        · rw [if_pos (k0.mp c), if_pos (by rw [xk]; exact c)]
          refine ⟨_, congrArg (fun b => (b, _)) ?_, ?_⟩
          · exact (ab_of (m := x.2.rest x.1) (spc_app _ _) rfl rfl rfl).symm
          · show x.2.ev ++ [_] = _
            rw [s2, xi, xp, List.append_assoc]
        · rw [if_neg fun z => c (k0.mpr z), if_neg (by rw [xk]; exact c)]
          refine ⟨_, rfl, ?_⟩
          show x.2.ev ++ [_] = _
          rw [s2, xi, xp, List.append_assoc]
theorem come_ev {q : List O} {o : O} {m : B} (g : Gd (o :: q) m) (lo : LiveOk o) : m.ev.length ≤ (come m o).ev.length := by
  obtain ⟨e, f⟩ := (come_done g lo).ev
  rw [f, List.length_append]
  exact Nat.le_add_right _ _

/-! ## stops -/
theorem WaitOk.awake {o : O} (h : WaitOk o) : LiveOk o.awake := by
  refine ⟨?_, h.id, ?_⟩
  · have hk := h.k
    rcases h.kk with e | e
    · rw [e] at hk
      have e2 : o.awake.s.kind = 1 := by
        show (if o.s.kind = 5 then 1 else 0) = 1
        rw [if_pos e]
      exact .inr (.inr (.inr (.inr (.inr (.inl ⟨hk, e2⟩)))))
    · rw [e] at hk
      have e2 : o.awake.s.kind = 0 := by
        show (if o.s.kind = 5 then 1 else 0) = 0
        rw [if_neg (by omega)]
      exact .inr (.inr (.inr (.inr (.inr (.inr ⟨hk, e2⟩)))))
  · intro z
    rcases h.kk with e | e
    · exact absurd (show (if o.s.kind = 5 then 1 else 0) = 1 by rw [if_pos e]) z
    · exact h.pr e
theorem trig_ws {m : B} {o : O} (h : o ∈ trig m) : o ∈ m.ws := by
  unfold trig at h
  split at h
  · cases h
  · exact (List.mem_filter.mp h).1
theorem fire_lat (m : B) (o : O) : (fire m o).lat = m.lat := rfl
/-- what firing leaves: those that are not among the fired -/
structure Fired (m : B) (l : List O) (x : B) : Prop where
  rs : x.rs = m.rs
  ws : x.ws = m.ws.filter fun o => decide (o.s.id ∉ ids l)
  lat : x.lat = m.lat
  auc : x.auc = m.auc
  ev : x.ev = m.ev ++ l.map fun o => Sd17.Ev.triggered o.s.id m.lat
theorem fires {q : List O} : ∀ (l : List O) (m : B), (∀ o ∈ l, o.s.id ∉ ids m.rs) → Fired m l (l.foldl fire m)
  | [], m, _ => ⟨rfl, (List.filter_eq_self.mpr fun o _ => decide_eq_true (by intro z; cases z)).symm, rfl, rfl, (List.append_nil _).symm⟩
  | o :: l, m, h => by
    have e1 : out o.s.id m.rs = m.rs := out_other (h o List.mem_cons_self)
    have F := fires (q := q) l (fire m o) (fun x hx => by
      show x.s.id ∉ ids (out o.s.id m.rs)
      rw [e1]
      exact h x (List.mem_cons_of_mem _ hx))
    refine ⟨F.rs.trans e1, ?_, F.lat, F.auc, ?_⟩
    · rw [List.foldl_cons, F.ws]
      show (out o.s.id m.ws).filter _ = _
      unfold out
      rw [List.filter_filter]
      apply List.filter_congr
      intro x _
      show (decide (x.s.id ∉ ids l) && decide (x.s.id ≠ o.s.id)) = decide (x.s.id ∉ ids (o :: l))
      rw [Bool.eq_iff_iff, Bool.and_eq_true, decide_eq_true_iff, decide_eq_true_iff, decide_eq_true_iff]
      constructor
      · rintro ⟨a, b⟩ c
        rcases List.mem_cons.mp c with c | c
        · exact b c
        · exact a c
      · exact fun a => ⟨fun c => a (List.mem_cons_of_mem _ c), fun c => a (by rw [c]; exact List.mem_cons_self)⟩
    · rw [List.foldl_cons, F.ev]
      show (m.ev ++ [_]) ++ _ = _
      rw [List.append_assoc]
      rfl
theorem fired_is {q : List O} {m : B} (g : Gd q m) : Fired m (trig m) (fired m) := fires (q := q) (trig m) m fun o ho => (g.ws_rs (trig_ws ho)).1
theorem pulls_sim {o : O} (h : WaitOk o) (p : Nat) (hp : ¬ p = 0) : Sd17.pulls o.s p = o.pulled p := by
  unfold Sd17.pulls O.pulled
  have e : (p != 0) = true := by simp [hp]
  rw [e, h.t]
  have a : decide ((o.s.trigger : Int) ≤ (p : Int)) = decide (o.s.trigger ≤ p) := by
    by_cases z : o.s.trigger ≤ p
    · rw [decide_eq_true z, decide_eq_true (by omega)]
    · rw [decide_eq_false z, decide_eq_false (by omega)]
  have b : decide ((p : Int) ≤ (o.s.trigger : Int)) = decide (p ≤ o.s.trigger) := by
    by_cases z : p ≤ o.s.trigger
    · rw [decide_eq_true z, decide_eq_true (by omega)]
    · rw [decide_eq_false z, decide_eq_false (by omega)]
  rw [a, b]
  rfl
theorem pulls_zero (o : Sd17.Order) : Sd17.pulls o 0 = false := rfl
theorem trig_sim {q : List O} {m : B} (g : Gd q m) : spc (trig m) = (spc m.ws).filter fun o => Sd17.pulls o m.lat := by
  unfold trig
  by_cases h : m.lat = 0
  · rw [if_pos h, h]
    symm
    exact List.filter_eq_nil_iff.mpr fun o _ => by rw [pulls_zero]; decide
  · rw [if_neg h]
    unfold spc
    rw [List.filter_map]
    congr 1
    apply List.filter_congr
    intro o ho
    exact (pulls_sim (g.wok o ho) m.lat h).symm
theorem trig_iff {q : List O} {m : B} (g : Gd q m) {o : O} (ho : o ∈ m.ws) : o ∈ trig m ↔ Sd17.pulls o.s m.lat = true := by
  unfold trig
  by_cases h : m.lat = 0
  · rw [if_pos h, h, pulls_zero]
    simp
  · rw [if_neg h, List.mem_filter, pulls_sim (g.wok o ho) m.lat h]
    exact ⟨fun z => z.2, fun z => ⟨ho, z⟩⟩
theorem fired_ws {q : List O} {m : B} (g : Gd q m) : spc (fired m).ws = (spc m.ws).filter fun o => !Sd17.pulls o m.lat := by
  rw [(fired_is g).ws]
  unfold spc
  rw [List.filter_map]
  congr 1
  apply List.filter_congr
  intro o ho
  show decide (o.s.id ∉ ids (trig m)) = !Sd17.pulls o.s m.lat
  have e : o.s.id ∈ ids (trig m) ↔ o ∈ trig m := by
    constructor
    · intro z
      obtain ⟨x, hx, e⟩ := List.mem_map.mp z
      have := nodup_key (f := fun o : O => o.s.id) g.nid_ws (trig_ws hx) ho e
      rwa [← this]
    · exact fun z => List.mem_map.mpr ⟨o, z, rfl⟩
  cases hp : Sd17.pulls o.s m.lat with
  | true => exact decide_eq_false fun z => z (e.mpr ((trig_iff g ho).mpr hp))
  | false =>
    refine decide_eq_true fun z => ?_
    have := (trig_iff g ho).mp (e.mp z)
    rw [hp] at this
    cases this
theorem trig_sublist (m : B) : (trig m).Sublist m.ws := by
  unfold trig
  split
  · exact List.nil_sublist _
  · exact List.filter_sublist
/-- those that are triggered stand beside the book -/
theorem Gd.fired {q : List O} {m : B} (g : Gd q m) : Gd (q ++ trig m) (SB.fired m) := by
  have F := fired_is g
  have perm : (trig m ++ (SB.fired m).ws).Perm m.ws := by
    have e1 : trig m = m.ws.filter fun o => decide (o.s.id ∈ ids (trig m)) := by
      conv => lhs; unfold trig
      by_cases h : m.lat = 0
      · rw [if_pos h]
        symm
        apply List.filter_eq_nil_iff.mpr
        intro o _ z
        have z := of_decide_eq_true z
        unfold trig at z
        rw [if_pos h] at z
        cases z
      · rw [if_neg h]
        apply List.filter_congr
        intro o ho
        have e : o.s.id ∈ ids (trig m) ↔ o ∈ trig m := by
          constructor
          · intro z
            obtain ⟨x, hx, e⟩ := List.mem_map.mp z
            have := nodup_key (f := fun o : O => o.s.id) g.nid_ws (trig_ws hx) ho e
            rwa [← this]
          · exact fun z => List.mem_map.mpr ⟨o, z, rfl⟩
        rw [Bool.eq_iff_iff, decide_eq_true_iff, e]
        unfold trig
        rw [if_neg h, List.mem_filter]
        exact ⟨fun z => ⟨ho, z⟩, fun z => z.2⟩
    rw [F.ws]
    have e2 : (m.ws.filter fun o => decide (o.s.id ∉ ids (trig m))) = m.ws.filter fun o => !decide (o.s.id ∈ ids (trig m)) := by
      apply List.filter_congr
      intro o _
      by_cases z : o.s.id ∈ ids (trig m) <;> simp [z]
    rw [e2]
    conv => lhs; lhs; rw [e1]
    exact List.filter_append_perm _ _
  have p2 : ((q ++ trig m) ++ ((SB.fired m).rs ++ (SB.fired m).ws)).Perm (q ++ (m.rs ++ m.ws)) := by
    rw [F.rs, List.append_assoc]
    apply List.Perm.append_left
    have a : (trig m ++ (m.rs ++ (SB.fired m).ws)).Perm (m.rs ++ (trig m ++ (SB.fired m).ws)) := by
      rw [← List.append_assoc, ← List.append_assoc]
      exact List.Perm.append_right _ List.perm_append_comm
    exact a.trans (List.Perm.append_left _ perm)
  refine ⟨((p2.map fun o : O => o.s.id).nodup_iff).mpr g.nid, ((p2.map fun o : O => o.adr).nodup_iff).mpr g.nad, fun o ho => g.rok o (by rw [← F.rs]; exact ho), fun o ho => g.wok o ?_⟩
  rw [F.ws] at ho
  exact (List.mem_filter.mp ho).1
theorem fired_len {q : List O} {m : B} (g : Gd q m) : (trig m).length + (SB.fired m).ws.length = m.ws.length := by
  have a := trig_sim g
  have b := fired_ws g
  have la : (trig m).length = ((spc m.ws).filter fun o => Sd17.pulls o m.lat).length := by rw [← a]; exact (List.length_map _).symm
  have lb : (SB.fired m).ws.length = ((spc m.ws).filter fun o => !Sd17.pulls o m.lat).length := by rw [← b]; exact (List.length_map _).symm
  have p := (List.filter_append_perm (fun o => Sd17.pulls o m.lat) (spc m.ws)).length_eq
  rw [List.length_append] at p
  have c : (spc m.ws).length = m.ws.length := List.length_map _
  rw [la, lb, p, c]
theorem Gd.head {q : List O} {o : O} {m : B} (g : Gd (o :: q) m) : Gd (o.awake :: q) m := ⟨g.nid, g.nad, g.rok, g.wok⟩
/-- all that wait beside the book are stops -/
def AllW (q : List O) : Prop := ∀ o ∈ q, WaitOk o
theorem Gd.allW {q : List O} {m : B} (g : Gd q m) : AllW (trig m) := fun o ho => g.wok o (trig_ws ho)
theorem Gd.one {q : List O} {o : O} {m : B} (g : Gd (o :: q) m) : Gd [o] m := by
  have h : (([o] : List O) ++ (m.rs ++ m.ws)).Sublist ((o :: q) ++ (m.rs ++ m.ws)) :=
    (List.Sublist.cons_cons o (List.sublist_append_right q _))
  exact ⟨g.nid.sublist (h.map _), g.nad.sublist (h.map _), g.rok, g.wok⟩
structure Chained (m : B) (x : B) : Prop where
  gd : Gd [] x
  auc : x.auc = m.auc
  ev : ∃ evs, x.ev = m.ev ++ evs
theorem chain_ok : ∀ (k : Nat) (q : List O) (m : B), Gd q m → AllW q → q.length + m.ws.length < k + 1 →
    Gd [] (chain k q m) ∧ (chain k q m).auc = m.auc ∧ (∃ evs, (chain k q m).ev = m.ev ++ evs) ∧ (chain k q m).rs.length + (chain k q m).ws.length ≤ m.rs.length + m.ws.length + q.length
  | 0, [], m, g, _, _ => ⟨g, rfl, ⟨[], (List.append_nil _).symm⟩, Nat.le_refl _⟩
  | 0, o :: q, m, g, _, h => by simp at h
  | k + 1, [], m, g, _, _ => ⟨g, rfl, ⟨[], (List.append_nil _).symm⟩, Nat.le_refl _⟩
  | k + 1, o :: q, m, g, w, h => by
    have lo := (w o List.mem_cons_self).awake
    have D := come_done g.head lo
    have F := fired_is D.gd
    have FL := fired_len D.gd
    have G2 := D.gd.fired
    have W2 : AllW (q ++ trig (come m o.awake)) := fun x hx => (List.mem_append.mp hx).elim (fun z => w x (List.mem_cons_of_mem _ z)) (fun z => D.gd.allW x z)
    have hl : (q ++ trig (come m o.awake)).length + (fired (come m o.awake)).ws.length < k + 1 := by
      rw [List.length_append]
      rw [D.ws] at FL
      have : (o :: q).length = q.length + 1 := rfl
      omega
    obtain ⟨r1, r2, ⟨evs, r3⟩, r4⟩ := chain_ok k _ _ G2 W2 hl
    obtain ⟨e1, f1⟩ := D.ev
    refine ⟨r1, r2.trans (F.auc.trans D.auc), ⟨_, (r3.trans (by rw [F.ev, f1, List.append_assoc, List.append_assoc]))⟩, ?_⟩
    show (chain k (q ++ trig (come m o.awake)) (fired (come m o.awake))).rs.length + _ ≤ _
    rw [List.length_append, F.rs] at r4
    rw [D.ws] at FL
    have := D.len
    have h2 : (o :: q).length = q.length + 1 := rfl
    have h3 : (chain (k + 1) (o :: q) m) = chain k (q ++ trig (come m o.awake)) (fired (come m o.awake)) := rfl
    rw [h3]
    omega
theorem chain_sim : ∀ (k : Nat) (q : List O) (m : B), Gd q m → AllW q → q.length + m.ws.length < k →
    ∃ evs, Sd17.cascade k (spc q) (ab m) = (ab (chain k (q ++ trig m) (fired m)), evs) ∧ (chain k (q ++ trig m) (fired m)).ev = m.ev ++ evs
  | 0, _, _, _, _, h => absurd h (Nat.not_lt_zero _)
  | k + 1, q, m, g, w, h => by
    have F := fired_is g
    have FL := fired_len g
    have G1 := g.fired
    have eb : ({ rest := (ab m).rest, stops := (ab m).stops.filter fun o => !Sd17.pulls o (ab m).last, last := (ab m).last, auction := (ab m).auction } : Sd17.Book) = ab (fired m) :=
      (ab_of (by rw [F.rs]; rfl) (fired_ws g) F.lat F.auc).symm
    have et : ((ab m).stops.filter fun o => Sd17.pulls o (ab m).last) = spc (trig m) := (trig_sim g).symm
    unfold Sd17.cascade
    dsimp only
    rw [eb, et, ← spc_app]
    have tl : (spc (trig m)).map (fun o => Sd17.Ev.triggered o.id (ab m).last) = (trig m).map fun o => Sd17.Ev.triggered o.s.id m.lat := by
      unfold spc
      rw [List.map_map]
      rfl
    have tl2 : (spc (trig m)).map (fun o => Sd17.Ev.triggered o.id (ab (fired m)).last) = (trig m).map fun o => Sd17.Ev.triggered o.s.id m.lat := by
      have e : (ab (fired m)).last = m.lat := F.lat
      rw [e]
      exact tl
    first | rw [tl] | rw [tl2]
    have W1 : AllW (q ++ trig m) := fun x hx => (List.mem_append.mp hx).elim (w x) (g.allW x)
    generalize hq : q ++ trig m = qq at G1 W1 ⊢
    have hlen : qq.length + (fired m).ws.length < k + 1 := by
      rw [← hq, List.length_append]
      omega
    cases qq with
    | nil => exact ⟨_, rfl, F.ev⟩
    | cons o r =>
      have lo := (W1 o List.mem_cons_self).awake
      have D := come_done G1.head lo
      obtain ⟨e1, s1, s2⟩ := come_sim G1.head lo
      have s1' : Sd17.come { id := o.s.id, who := o.s.who, buy := o.s.buy, kind := if o.s.kind = 5 then 1 else 0, price := o.s.price, amount := o.s.amount, trigger := o.s.trigger } (ab (fired m)) = (ab (come (fired m) o.awake), e1) := s1
      have Wr : AllW r := fun x hx => W1 x (List.mem_cons_of_mem _ hx)
      have hl2 : r.length + (come (fired m) o.awake).ws.length < k := by
        rw [D.ws]
        have : (o :: r).length = r.length + 1 := rfl
        omega
      obtain ⟨e2, t1, t2⟩ := chain_sim k r (come (fired m) o.awake) D.gd Wr hl2
      refine ⟨((trig m).map fun o => Sd17.Ev.triggered o.s.id m.lat) ++ (e1 ++ e2), ?_, ?_⟩
      · show (let x := Sd17.come _ (ab (fired m)); let y := Sd17.cascade k (spc r) x.1; (y.1, _ ++ (x.2 ++ y.2))) = _
        dsimp only
        rw [s1']
        dsimp only
        rw [t1]
        rfl
      · show (chain k (r ++ trig (come (fired m) o.awake)) (fired (come (fired m) o.awake))).ev = _
        rw [t2, s2, F.ev, List.append_assoc, List.append_assoc]
theorem trigAll_sim {m : B} (g : Gd [] m) (e0 : List Sd17.Ev) : ∃ evs, Sd17.settle (ab m, e0) = (ab (trigAll m), e0 ++ evs) ∧ (trigAll m).ev = m.ev ++ evs := by
  have hl : (ab m).stops.length = m.ws.length := List.length_map _
  obtain ⟨evs, s1, s2⟩ := chain_sim (m.ws.length + 1) [] m g (fun o h => nomatch h) (by simp)
  refine ⟨evs, ?_, s2⟩
  unfold Sd17.settle
  dsimp only
  rw [hl]
  have s1' : Sd17.cascade (m.ws.length + 1) [] (ab m) = _ := s1
  rw [s1']
  rfl
theorem trigAll_ok {m : B} (g : Gd [] m) : Gd [] (trigAll m) ∧ (trigAll m).auc = m.auc ∧ (∃ evs, (trigAll m).ev = m.ev ++ evs) ∧ (trigAll m).rs.length + (trigAll m).ws.length ≤ m.rs.length + m.ws.length := by
  have F := fired_is g
  have FL := fired_len g
  obtain ⟨a, b, ⟨e, c⟩, d⟩ := chain_ok (m.ws.length + 1) (trig m) (fired m) g.fired g.allW (by omega)
  refine ⟨a, b.trans F.auc, ⟨_, c.trans (by rw [F.ev, List.append_assoc])⟩, ?_⟩
  rw [F.rs] at d
  show (chain _ _ _).rs.length + (chain _ _ _).ws.length ≤ _
  omega
end SB

/-! # The mathematics: firing, an auction's end -/
namespace SB
theorem fires_len : ∀ (l : List O) (m : B), (l.foldl fire m).ev.length = m.ev.length + l.length ∧ (l.foldl fire m).lat = m.lat ∧ (l.foldl fire m).rs.length + (l.foldl fire m).ws.length ≤ m.rs.length + m.ws.length
  | [], m => ⟨rfl, rfl, Nat.le_refl _⟩
  | o :: l, m => by
    obtain ⟨a, b, c⟩ := fires_len l (fire m o)
    refine ⟨?_, b, Nat.le_trans c (Nat.add_le_add (out_length _ _) (out_length _ _))⟩
    rw [List.foldl_cons, a]
    show (m.ev ++ [_]).length + l.length = m.ev.length + (l.length + 1)
    rw [List.length_append]
    show m.ev.length + 1 + l.length = _
    omega
theorem out_setA_comm (n a k : Nat) (l : List O) : out n (setA a k l) = setA a k (out n l) := by
  unfold out setA
  rw [List.filter_map]
  congr 1
  apply List.filter_congr
  intro o _
  show decide ((if o.adr = a then o.amt k else o).s.id ≠ n) = decide (o.s.id ≠ n)
  split <;> rfl
/-- both trade: what it makes of the book -/
structure Crossed (m : B) (x y : O) (p : Nat) (z : B) : Prop where
  gd : Gd [] z
  rs : spc z.rs = Sd17.left y.s.id (y.s.amount - min x.s.amount y.s.amount) (Sd17.left x.s.id (x.s.amount - min x.s.amount y.s.amount) (spc m.rs))
  ws : z.ws = m.ws
  lat : z.lat = p
  auc : z.auc = m.auc
  ev : z.ev = m.ev ++ [.trade x.s.id y.s.id p (min x.s.amount y.s.amount) (y.s.amount - min x.s.amount y.s.amount)]
  len : z.rs.length < m.rs.length
theorem cross_ok {m : B} {x y : O} (g : Gd [] m) (hx : x ∈ m.rs) (hy : y ∈ m.rs) (hne : x ≠ y) (p : Nat) : Crossed m x y p (cross m x y p) := by
  have nid : y.s.id ≠ x.s.id := fun e => hne (nodup_key (f := fun o : O => o.s.id) g.nid_rs hx hy e.symm)
  have nad : y.adr ≠ x.adr := fun e => hne (nodup_key (f := fun o : O => o.adr) g.nad_rs hx hy e.symm)
  unfold cross
  generalize hnx : x.s.amount - min x.s.amount y.s.amount = nx
  generalize hny : y.s.amount - min x.s.amount y.s.amount = ny
  have hz : nx = 0 ∨ ny = 0 := by omega
  -- the first one's turn
  let m0 : B := { m with rs := setA x.adr nx m.rs }
  have G0 := g.done hx (m1 := m0) (n := nx) rfl rfl
  obtain ⟨a1, a2, a3, a4, a5, a6, a7, a8⟩ := done_sim g hx (m1 := m0) (n := nx) rfl rfl
  have wx : x.adr ∉ adrs m.ws := (g.rs_ws hx).2
  have wy : y.adr ∉ adrs m.ws := (g.rs_ws hy).2
  have hy0 : y ∈ (m0.done x.s.id nx).rs := by
    have hy1 : y ∈ setA x.adr nx m.rs := List.mem_map.mpr ⟨y, hy, if_neg nad⟩
    unfold B.done
    by_cases c : nx = 0
    · rw [if_pos c]
      exact mem_out.mpr ⟨hy1, nid⟩
    · rw [if_neg c]
      exact hy1
  -- both in the program's order
  have e1 : ((m.trade x y p).done x.s.id nx).rs = setA y.adr ny (m0.done x.s.id nx).rs := by
    have t : (m.trade x y p).rs = setA y.adr ny (setA x.adr nx m.rs) := by
      show setA y.adr (y.s.amount - _) (setA x.adr (x.s.amount - _) m.rs) = _
      rw [hnx, hny]
    unfold B.done
    by_cases c : nx = 0
    · rw [if_pos c, if_pos c]
      show out x.s.id (m.trade x y p).rs = setA y.adr ny (out x.s.id (setA x.adr nx m.rs))
      rw [t, out_setA_comm]
    · rw [if_neg c, if_neg c, t]
  have e2 : ((m.trade x y p).done x.s.id nx).ws = (m0.done x.s.id nx).ws := by
    have t : (m.trade x y p).ws = m.ws := by
      show setA y.adr _ (setA x.adr _ m.ws) = _
      rw [setA_other wx, setA_other wy]
    unfold B.done
    by_cases c : nx = 0
    · rw [if_pos c, if_pos c]
      show out x.s.id (m.trade x y p).ws = out x.s.id m.ws
      rw [t]
    · rw [if_neg c, if_neg c, t]
  have e3 : ((m.trade x y p).done x.s.id nx).lat = p ∧ ((m.trade x y p).done x.s.id nx).auc = m.auc ∧ ((m.trade x y p).done x.s.id nx).ev = m.ev ++ [.trade x.s.id y.s.id p (min x.s.amount y.s.amount) ny] := by
    unfold B.done
    by_cases c : nx = 0
    · rw [if_pos c]
      exact ⟨rfl, rfl, by rw [← hny]; rfl⟩
    · rw [if_neg c]
      exact ⟨rfl, rfl, by rw [← hny]; rfl⟩
  have G1 := G0.done hy0 e1 e2
  obtain ⟨b1, b2, b3, b4, b5, b6, b7, b8⟩ := done_sim G0 hy0 e1 e2
  refine ⟨G1, ?_, b1.trans a1, b3.trans e3.1, b4.trans e3.2.1, ?_, ?_⟩
  · rw [b2, a2, hnx, hny]
  · rw [b5, e3.2.2, hny]
  · rcases hz with z | z
    · exact Nat.lt_of_le_of_lt b6 (a7 z)
    · exact Nat.lt_of_lt_of_le (b7 z) a6
theorem both_mem {m : B} {p : Nat} {z : O × O} (h : both m p = some z) : z.1 ∈ m.rs ∧ z.2 ∈ m.rs ∧ z.1.s.buy = true ∧ z.2.s.buy = false ∧ z.1.accepts p = true ∧ z.2.accepts p = true ∧ best m.rs true = some z.1 ∧ best m.rs false = some z.2 := by
  unfold both at h
  cases hx : best m.rs true with
  | none => rw [hx] at h; cases h
  | some x =>
    cases hy : best m.rs false with
    | none => rw [hx, hy] at h; cases h
    | some y =>
      rw [hx, hy] at h
      have h' : (if (x.accepts p && y.accepts p) = true then some (x, y) else none) = some z := h
      by_cases c : (x.accepts p && y.accepts p) = true
      · rw [if_pos c] at h'
        cases h'
        rw [Bool.and_eq_true] at c
        exact ⟨(best_mem hx).1, (best_mem hy).1, (best_mem hx).2, (best_mem hy).2, c.1, c.2, rfl, rfl⟩
      · rw [if_neg c] at h'
        cases h'
theorem both_cross {m : B} {p : Nat} {z : O × O} (g : Gd [] m) (h : both m p = some z) : Crossed m z.1 z.2 p (cross m z.1 z.2 p) := by
  obtain ⟨a, b, c, d, _⟩ := both_mem h
  refine cross_ok g a b (fun e => ?_) p
  rw [e, d] at c
  cases c
theorem tradeAt_ok (p : Nat) : ∀ (k : Nat) (m : B), Gd [] m → Gd [] (tradeAt p k m) ∧ (tradeAt p k m).ws = m.ws ∧ (tradeAt p k m).auc = m.auc ∧ (tradeAt p k m).rs.length ≤ m.rs.length ∧ ∃ evs, (tradeAt p k m).ev = m.ev ++ evs
  | 0, m, g => ⟨g, rfl, rfl, Nat.le_refl _, [], (List.append_nil _).symm⟩
  | k + 1, m, g => by
    unfold tradeAt
    cases e : both m p with
    | none => exact ⟨g, rfl, rfl, Nat.le_refl _, [], (List.append_nil _).symm⟩
    | some z =>
      have C := both_cross g e
      obtain ⟨a, b, c, d, evs, f⟩ := tradeAt_ok p k _ C.gd
      exact ⟨a, b.trans C.ws, c.trans C.auc, Nat.le_of_lt (Nat.lt_of_le_of_lt d C.len), _, f.trans (by rw [C.ev, List.append_assoc])⟩
theorem tradeAt_stop {p k : Nat} {m : B} (h : both m p = none) : tradeAt p k m = m := by
  cases k with
  | zero => rfl
  | succ k =>
    unfold tradeAt
    rw [h]
theorem tradeAt_go {p k : Nat} {m : B} {z : O × O} (h : both m p = some z) : tradeAt p (k + 1) m = tradeAt p k (cross m z.1 z.2 p) := by
  conv => lhs; unfold tradeAt
  rw [h]
theorem tradeAt_sim (p : Nat) : ∀ (k : Nat) (m : B), Gd [] m → ∃ evs, Sd17.cross p k (ab m) = (ab (tradeAt p k m), evs) ∧ (tradeAt p k m).ev = m.ev ++ evs
  | 0, m, g => ⟨[], rfl, (List.append_nil _).symm⟩
  | k + 1, m, g => by
    have hb0 : (ab m).rest = spc m.rs := rfl
    unfold Sd17.cross
    rw [hb0, best_sim, best_sim]
    cases hx : best m.rs true with
    | none =>
      have e : both m p = none := by unfold both; rw [hx]
      rw [tradeAt_stop e]
      exact ⟨[], rfl, (List.append_nil _).symm⟩
    | some x =>
      cases hy : best m.rs false with
      | none =>
        have e : both m p = none := by unfold both; rw [hx, hy]
        rw [tradeAt_stop e]
        exact ⟨[], rfl, (List.append_nil _).symm⟩
      | some y =>
        obtain ⟨mx, bx⟩ := best_mem hx
        obtain ⟨my, by_⟩ := best_mem hy
        have kx := (g.rok x mx).kind
        have ky := (g.rok y my).kind
        have tx : x.accepts p = decide (p ≤ x.s.price) := by
          rw [(g.rok x mx).takes]
          unfold Sd17.takes
          rw [kx, bx]
          rfl
        have ty : y.accepts p = decide (y.s.price ≤ p) := by
          rw [(g.rok y my).takes]
          unfold Sd17.takes
          rw [ky, by_]
          rfl
        have eb : both m p = if (x.accepts p && y.accepts p) = true then some (x, y) else none := by unfold both; rw [hx, hy]
        by_cases c : x.s.price < p ∨ p < y.s.price
        · have e : both m p = none := by
            rw [eb, tx, ty, if_neg]
            rw [Bool.and_eq_true, decide_eq_true_iff, decide_eq_true_iff]
            omega
          rw [tradeAt_stop e]
          refine ⟨[], ?_, (List.append_nil _).symm⟩
          show (if x.s.price < p ∨ p < y.s.price then (ab m, []) else _) = _
          rw [if_pos c]
        · have e : both m p = some (x, y) := by
            rw [eb, tx, ty, if_pos]
            rw [Bool.and_eq_true, decide_eq_true_iff, decide_eq_true_iff]
            omega
          have C := both_cross g e
          rw [tradeAt_go e]
          obtain ⟨evs, s1, s2⟩ := tradeAt_sim p k _ C.gd
          refine ⟨.trade x.s.id y.s.id p (min x.s.amount y.s.amount) (y.s.amount - min x.s.amount y.s.amount) :: evs, ?_, ?_⟩
          · show (if x.s.price < p ∨ p < y.s.price then (ab m, []) else _) = _
            rw [if_neg c]
            have eb : ({ rest := Sd17.left y.s.id (y.s.amount - min x.s.amount y.s.amount) (Sd17.left x.s.id (x.s.amount - min x.s.amount y.s.amount) (spc m.rs)), stops := (ab m).stops, last := p, auction := (ab m).auction } : Sd17.Book) = ab (cross m x y p) :=
              (ab_of C.rs (by rw [C.ws]; rfl) C.lat C.auc).symm
            dsimp only
            rw [eb]
            have s1' : Sd17.cross p k (ab (cross m x y p)) = _ := s1
            rw [s1']
          · rw [s2, C.ev, List.append_assoc]
            rfl
theorem foldl_mem (f : Sd17.Book) : ∀ (l : List Nat) (a : Option Nat), ∀ x, l.foldl (fun (m : Option Nat) q => match m with
      | none => some q
      | some x => if Sd17.finer f q x = true then some q else some x) a = some x → x ∈ l ∨ a = some x
  | [], a, x, h => .inr h
  | q :: l, a, x, h => by
    rw [List.foldl_cons] at h
    rcases foldl_mem f l _ x h with z | z
    · exact .inl (List.mem_cons_of_mem _ z)
    · cases a with
      | none =>
        cases z
        exact .inl List.mem_cons_self
      | some y =>
        have z' : (if Sd17.finer f q y = true then some q else some y) = some x := z
        split at z'
        · cases z'
          exact .inl List.mem_cons_self
        · exact .inr z'
theorem clearing_mem {b : Sd17.Book} {p : Nat} (h : Sd17.clearing b = some p) : p ∈ b.rest.map fun o => o.price := by
  unfold Sd17.clearing at h
  dsimp only at h
  obtain ⟨x, h1, h2⟩ := Option.bind_eq_some_iff.mp h
  split at h2
  · cases h2
  · cases h2
    rcases foldl_mem b _ none p h1 with z | z
    · exact z
    · cases z
theorem endAuc_sim {m : B} (g : Gd [] m) : ∃ evs, Sd17.uncross (ab m) = (ab (endAuc m), evs) ∧ (endAuc m).ev = m.ev ++ evs := by
  let m0 : B := { m with auc := false }
  have g0 : Gd [] m0 := ⟨g.nid, g.nad, g.rok, g.wok⟩
  have eb : ({ rest := (ab m).rest, stops := (ab m).stops, last := (ab m).last, auction := false } : Sd17.Book) = ab m0 := rfl
  unfold Sd17.uncross endAuc
  dsimp only
  rw [eb]
  have hl : (ab m).rest.length = m.rs.length := List.length_map _
  rw [hl]
  cases c : Sd17.clearing (ab m0) with
  | none =>
    have hp0 : priceNow m0 = 0 := by
      unfold priceNow
      rw [c]
      rfl
    show ∃ evs, Sd17.settle (ab m0, []) = (ab (trigAll (if 0 < priceNow m0 then tradeAt (priceNow m0) (m.rs.length + 1) m0 else m0)), evs) ∧ (trigAll (if 0 < priceNow m0 then tradeAt (priceNow m0) (m.rs.length + 1) m0 else m0)).ev = m.ev ++ evs
    rw [if_neg (by rw [hp0]; decide)]
    obtain ⟨e1, t1, t2⟩ := trigAll_sim g0 []
    exact ⟨_, t1, t2⟩
  | some p =>
    have hp0 : priceNow m0 = p := by
      unfold priceNow
      rw [c]
      rfl
    have hp : 0 < p := by
      have := clearing_mem c
      obtain ⟨o, ho, rfl⟩ := List.mem_map.mp this
      obtain ⟨x, hx, rfl⟩ := List.mem_map.mp ho
      exact (g.rok x hx).pr
    show ∃ evs, Sd17.settle (Sd17.cross p (m.rs.length + 1) (ab m0)) = (ab (trigAll (if 0 < priceNow m0 then tradeAt (priceNow m0) (m.rs.length + 1) m0 else m0)), evs) ∧ (trigAll (if 0 < priceNow m0 then tradeAt (priceNow m0) (m.rs.length + 1) m0 else m0)).ev = m.ev ++ evs
    rw [hp0, if_pos hp]
    obtain ⟨e0, s1, s2⟩ := tradeAt_sim p (m.rs.length + 1) m0 g0
    have G := (tradeAt_ok p (m.rs.length + 1) m0 g0).1
    rw [s1]
    obtain ⟨e1, t1, t2⟩ := trigAll_sim G e0
    exact ⟨_, t1, by rw [t2, s2, List.append_assoc]⟩
theorem endAuc_ok {m : B} (g : Gd [] m) : Gd [] (endAuc m) ∧ (endAuc m).auc = false ∧ (∃ evs, (endAuc m).ev = m.ev ++ evs) ∧ (endAuc m).rs.length + (endAuc m).ws.length ≤ m.rs.length + m.ws.length := by
  let m0 : B := { m with auc := false }
  have g0 : Gd [] m0 := ⟨g.nid, g.nad, g.rok, g.wok⟩
  have key : Gd [] (if 0 < priceNow m0 then tradeAt (priceNow m0) (m.rs.length + 1) m0 else m0) ∧ (if 0 < priceNow m0 then tradeAt (priceNow m0) (m.rs.length + 1) m0 else m0).auc = false ∧
      (∃ evs, (if 0 < priceNow m0 then tradeAt (priceNow m0) (m.rs.length + 1) m0 else m0).ev = m.ev ++ evs) ∧ (if 0 < priceNow m0 then tradeAt (priceNow m0) (m.rs.length + 1) m0 else m0).rs.length + (if 0 < priceNow m0 then tradeAt (priceNow m0) (m.rs.length + 1) m0 else m0).ws.length ≤ m.rs.length + m.ws.length := by
    by_cases c : 0 < priceNow m0
    · rw [if_pos c]
      obtain ⟨a, b, d, e, f⟩ := tradeAt_ok (priceNow m0) (m.rs.length + 1) m0 g0
      exact ⟨a, d, f, by rw [b]; exact Nat.add_le_add_right e _⟩
    · rw [if_neg c]
      exact ⟨g0, rfl, ⟨[], (List.append_nil _).symm⟩, Nat.le_refl _⟩
  obtain ⟨a, b, ⟨e, c⟩, d⟩ := key
  obtain ⟨a', b', ⟨e', c'⟩, d'⟩ := trigAll_ok a
  exact ⟨a', b'.trans b, ⟨e ++ e', by rw [← List.append_assoc, ← c]; exact c'⟩, Nat.le_trans d' d⟩
/-! ## an order taken, changed -/
theorem come_keeps {q : List O} {o : O} {m : B} (g : Gd (o :: q) m) : (come m o).ws = m.ws ∧ (come m o).auc = m.auc ∧ (come m o).rs.length ≤ m.rs.length + 1 ∧ ∃ evs, (come m o).ev = m.ev ++ evs := by
  unfold come
  split
  · exact ⟨rfl, rfl, Nat.le_succ _, _, rfl⟩
  · split
    · exact ⟨rfl, rfl, Nat.le_succ _, _, rfl⟩
    · have M := tradeAll_met (m.rs.length + 1) q o m g
      generalize tradeAll (m.rs.length + 1) o m = x at M
      obtain ⟨e1, f1⟩ := M.ev
      unfold leaves
      split
      · exact ⟨M.ws, M.auc, Nat.le_succ_of_le M.len, e1, f1⟩
      · unfold leave
        split
        · refine ⟨M.ws, M.auc, ?_, e1 ++ [.rests x.1.s.id x.1.s.price x.1.s.amount], ?_⟩
          · show (x.2.rs ++ [x.1.calm]).length ≤ _
            rw [List.length_append]
            exact Nat.succ_le_succ M.len
          · show x.2.ev ++ [_] = _
            rw [f1, List.append_assoc]
        · refine ⟨M.ws, M.auc, Nat.le_succ_of_le M.len, e1 ++ [.ended x.1.s.id 2 x.1.s.price x.1.s.amount], ?_⟩
          show x.2.ev ++ [_] = _
          rw [f1, List.append_assoc]
theorem take1_keeps {o : O} {m : B} (g : Gd [o] m) : (take1 m o).auc = m.auc ∧ (take1 m o).rs.length + (take1 m o).ws.length ≤ m.rs.length + m.ws.length + 1 ∧ ∃ evs, (take1 m o).ev = m.ev ++ evs := by
  unfold take1
  split
  · refine ⟨rfl, ?_, [], (List.append_nil _).symm⟩
    show m.rs.length + (m.ws ++ [o]).length ≤ _
    rw [List.length_append]
    exact Nat.le_refl _
  · split
    · refine ⟨rfl, ?_, _, rfl⟩
      show (m.rs ++ [o.calm]).length + m.ws.length ≤ _
      rw [List.length_append]
      have : [o.calm].length = 1 := rfl
      omega
    · obtain ⟨a, b, c, d⟩ := come_keeps g
      exact ⟨b, by rw [a]; omega, d⟩
theorem take_ev {o : O} {m : B} (g1 : Gd [] (take1 m o)) : (take1 m o).ev.length ≤ (take m o).ev.length := by
  unfold take
  split
  · exact Nat.le_refl _
  · obtain ⟨e, f⟩ := (trigAll_ok g1).2.2.1
    rw [f, List.length_append]
    exact Nat.le_add_right _ _
theorem Gd.wait {o : O} {m : B} (g : Gd [o] m) (w : WaitOk o) : Gd [] { m with ws := m.ws ++ [o] } := by
  have p1 : (m.rs ++ (m.ws ++ [o])).Perm ([o] ++ (m.rs ++ m.ws)) := by
    rw [← List.append_assoc]
    exact List.perm_append_comm
  refine ⟨((p1.map fun o : O => o.s.id).nodup_iff).mpr g.nid, ((p1.map fun o : O => o.adr).nodup_iff).mpr g.nad, g.rok, fun x hx => ?_⟩
  rcases List.mem_append.mp hx with hx | hx
  · exact g.wok x hx
  · rw [List.mem_singleton.mp hx]
    exact w
/-- an order that may be taken -/
structure TakeOk (o : O) : Prop where
  live : ¬ (o.k = 5 ∨ o.k = 6) → LiveOk o
  wait : (o.k = 5 ∨ o.k = 6) → WaitOk o
  am : 1 ≤ o.s.amount
theorem take1_gd {o : O} {m : B} (g : Gd [o] m) (t : TakeOk o) (hk : m.auc = true → (o.k = 0 ∨ o.k = 5 ∨ o.k = 6)) : Gd [] (take1 m o) := by
  unfold take1
  by_cases c : o.k = 5 ∨ o.k = 6
  · rw [if_pos c]
    exact g.wait (t.wait c)
  · rw [if_neg c]
    by_cases u : m.auc = true
    · rw [if_pos u]
      have k0 : o.k = 0 := (hk u).elim id fun z => absurd z c
      exact g.rest ((t.live c).rests t.am (.inl k0))
    · rw [if_neg u]
      exact (come_done g (t.live c)).gd
theorem take_gd {o : O} {m : B} (g1 : Gd [] (take1 m o)) : Gd [] (take m o) := by
  unfold take
  split
  · exact g1
  · exact (trigAll_ok g1).1
/-- what the specification does with an order that may be taken -/
theorem take_sim {o : O} {m : B} (g : Gd [o] m) (t : TakeOk o) (hk : m.auc = true → (o.k = 0 ∨ o.k = 5 ∨ o.k = 6)) :
    ∃ evs, (if m.auc = true then (if o.s.kind = 0 then ({ ab m with rest := (ab m).rest ++ [o.s] }, [Sd17.Ev.rests o.s.id o.s.price o.s.amount]) else ({ ab m with stops := (ab m).stops ++ [o.s] }, []))
      else if 5 ≤ o.s.kind then Sd17.settle ({ ab m with stops := (ab m).stops ++ [o.s] }, []) else Sd17.settle (Sd17.come o.s (ab m))) = (ab (take m o), evs) ∧ (take m o).ev = m.ev ++ evs := by
  have G1 := take1_gd g t hk
  have A1 := (take1_keeps g).1
  unfold take
  by_cases c : o.k = 5 ∨ o.k = 6
  · have w := t.wait c
    have e1 : take1 m o = { m with ws := m.ws ++ [o] } := by unfold take1; rw [if_pos c]
    rw [e1] at G1 ⊢
    have hk5 : 5 ≤ o.s.kind := by rcases w.kk with e | e <;> omega
    have ew : ({ rest := (ab m).rest, stops := (ab m).stops ++ [o.s], last := (ab m).last, auction := (ab m).auction } : Sd17.Book) = ab { m with ws := m.ws ++ [o] } :=
      (ab_of (m := { m with ws := m.ws ++ [o] }) rfl (spc_app m.ws [o]) rfl rfl).symm
    by_cases u : m.auc = true
    · rw [if_pos u, if_pos u, if_neg (by omega)]
      exact ⟨[], congrArg (fun b => (b, [])) ew, (List.append_nil _).symm⟩
    · rw [if_neg u, if_neg u, if_pos hk5]
      show ∃ evs, Sd17.settle (({ rest := (ab m).rest, stops := (ab m).stops ++ [o.s], last := (ab m).last, auction := (ab m).auction } : Sd17.Book), []) = _ ∧ _
      rw [ew]
      obtain ⟨evs, s1, s2⟩ := trigAll_sim G1 []
      exact ⟨_, s1, s2⟩
  · have l := t.live c
    by_cases u : m.auc = true
    · have k0 : o.k = 0 := (hk u).elim id fun z => absurd z c
      have s0 : o.s.kind = 0 := by
        rcases l.k with ⟨a, b⟩ | ⟨a, b⟩ | ⟨a, b⟩ | ⟨a, b⟩ | ⟨a, b⟩ | ⟨a, b⟩ | ⟨a, b⟩ <;> omega
      have e1 : take1 m o = m.rest o := by unfold take1; rw [if_neg c, if_pos u]
      rw [if_pos u, if_pos u, if_pos s0, e1]
      have ec : o.calm.s = o.s := by
        show { o.s with kind := 0 } = o.s
        rw [← s0]
      refine ⟨_, congrArg (fun b => (b, _)) ?_, rfl⟩
      refine (ab_of (m := m.rest o) ?_ rfl rfl rfl).symm
      show spc (m.rs ++ [o.calm]) = spc m.rs ++ [o.s]
      rw [spc_app, ← ec]
      rfl
    · have e1 : take1 m o = come m o := by unfold take1; rw [if_neg c, if_neg u]
      rw [e1] at G1 ⊢
      have nk : ¬ 5 ≤ o.s.kind := by
        rcases l.k with ⟨a, b⟩ | ⟨a, b⟩ | ⟨a, b⟩ | ⟨a, b⟩ | ⟨a, b⟩ | ⟨a, b⟩ | ⟨a, b⟩ <;> omega
      rw [if_neg u, if_neg u, if_neg nk]
      obtain ⟨e0, s1, s2⟩ := come_sim g l
      rw [s1]
      obtain ⟨e2, t1, t2⟩ := trigAll_sim G1 e0
      exact ⟨_, t1, by rw [t2, s2, List.append_assoc]⟩
theorem like_live {o : O} (r : RestOk o) (x p a : Nat) (hp : 1 ≤ p) : LiveOk (o.like x p a) := ⟨.inl ⟨rfl, r.kind⟩, r.id, fun _ => hp⟩
theorem like_take {o : O} (r : RestOk o) (x p a : Nat) (hp : 1 ≤ p) (ha : 1 ≤ a) : TakeOk (o.like x p a) := by
  refine ⟨fun _ => like_live r x p a hp, fun z => ?_, ha⟩
  have z : (0 : Int) = 5 ∨ (0 : Int) = 6 := z
  omega
theorem like_gd {o : O} {m : B} (g : Gd [] m) (ho : o ∈ m.rs) (x p a : Nat) (hx : x ∉ adrs m.rs ∧ x ∉ adrs m.ws) : Gd [o.like x p a] (m.takeOut o.s.id) := by
  have G := g.takeOut o.s.id
  refine ⟨?_, ?_, G.rok, G.wok⟩
  · show (o.s.id :: ids (out o.s.id m.rs ++ out o.s.id m.ws)).Nodup
    refine List.nodup_cons.mpr ⟨fun z => ?_, G.nid⟩
    rw [ids_app] at z
    rcases List.mem_append.mp z with z | z
    · obtain ⟨y, hy, e⟩ := List.mem_map.mp z
      exact (mem_out.mp hy).2 e
    · obtain ⟨y, hy, e⟩ := List.mem_map.mp z
      exact (mem_out.mp hy).2 e
  · show (x :: adrs (out o.s.id m.rs ++ out o.s.id m.ws)).Nodup
    refine List.nodup_cons.mpr ⟨fun z => ?_, G.nad⟩
    rw [adrs_app] at z
    rcases List.mem_append.mp z with z | z
    · exact hx.1 (((out_sub _ _).map _).subset z)
    · exact hx.2 (((out_sub _ _).map _).subset z)
end SB

/-! # The mathematics: an auction's price -/
namespace SB
/-- how much rests on a side at a price -/
def amountAt (l : List O) (buy : Bool) (p : Nat) : Nat := ((l.filter fun o => o.s.buy == buy && decide (o.s.price = p)).map fun o => o.s.amount).sum
/-- the sum up to a price, in the order of the prices -/
def wish (f : Nat → Nat) : List Nat → Nat → Nat
  | [], _ => 0
  | q :: r, p => if q = p then f q else f q + wish f r p
def dist (p l : Nat) : Nat := if l = 0 then 0 else Sd17.apart p l
theorem amountAt_snoc (l : List O) (o : O) (buy : Bool) (p : Nat) : amountAt (l ++ [o]) buy p = amountAt l buy p + if (o.s.buy == buy && decide (o.s.price = p)) = true then o.s.amount else 0 := by
  unfold amountAt
  rw [List.filter_append, List.map_append, List.sum_append, List.filter_cons]
  cases (o.s.buy == buy && decide (o.s.price = p)) <;> simp
theorem amountAt_cons (l : List O) (o : O) (buy : Bool) (p : Nat) : amountAt (o :: l) buy p = (if (o.s.buy == buy && decide (o.s.price = p)) = true then o.s.amount else 0) + amountAt l buy p := by
  unfold amountAt
  rw [List.filter_cons]
  cases (o.s.buy == buy && decide (o.s.price = p)) <;> simp
/-- the prices up to one -/
def upTo : List Nat → Nat → List Nat
  | [], _ => []
  | q :: r, p => if q = p then [q] else q :: upTo r p
theorem wish_upTo (f : Nat → Nat) : ∀ (ps : List Nat) (p : Nat), wish f ps p = ((upTo ps p).map f).sum
  | [], _ => rfl
  | q :: r, p => by
    show (if q = p then f q else f q + wish f r p) = (((if q = p then [q] else q :: upTo r p)).map f).sum
    by_cases h : q = p
    · rw [if_pos h, if_pos h]
      simp
    · rw [if_neg h, if_neg h, wish_upTo f r p, List.map_cons, List.sum_cons]
theorem upTo_sub : ∀ (ps : List Nat) (p : Nat), (upTo ps p).Sublist ps
  | [], _ => List.Sublist.slnil
  | q :: r, p => by
    show (if q = p then [q] else q :: upTo r p).Sublist (q :: r)
    split
    · exact List.Sublist.cons_cons q (List.nil_sublist r)
    · exact List.Sublist.cons_cons q (upTo_sub r p)
theorem mem_upTo {R : Nat → Nat → Prop} (irr : ∀ x, ¬ R x x) (asy : ∀ x y, R x y → ¬ R y x) : ∀ (ps : List Nat) (p : Nat), ps.Pairwise R → p ∈ ps → ∀ x, x ∈ upTo ps p ↔ x ∈ ps ∧ (R x p ∨ x = p)
  | [], _, _, h, _ => absurd h (by simp)
  | q :: r, p, hp, h, x => by
    obtain ⟨h1, h2⟩ := List.pairwise_cons.mp hp
    show x ∈ (if q = p then [q] else q :: upTo r p) ↔ _
    by_cases e : q = p
    · subst e
      rw [if_pos rfl, List.mem_singleton]
      constructor
      · rintro rfl
        exact ⟨List.mem_cons_self, .inr rfl⟩
      · rintro ⟨m, z | z⟩
        · rcases List.mem_cons.mp m with m | m
          · exact m
          · exact absurd z (asy _ _ (h1 x m))
        · exact z
    · rw [if_neg e, List.mem_cons]
      have hr : p ∈ r := (List.mem_cons.mp h).elim (fun z => absurd z.symm e) id
      rw [mem_upTo irr asy r p h2 hr x, List.mem_cons]
      constructor
      · rintro (rfl | ⟨a, b⟩)
        · exact ⟨.inl rfl, .inl (h1 p hr)⟩
        · exact ⟨.inr a, b⟩
      · rintro ⟨a | a, b⟩
        · exact .inl a
        · exact .inr ⟨a, b⟩
theorem one_sum (a p : Nat) : ∀ (qs : List Nat), qs.Nodup → (qs.map fun q => if p = q then a else 0).sum = if p ∈ qs then a else 0
  | [], _ => rfl
  | q :: r, h => by
    obtain ⟨h1, h2⟩ := List.nodup_cons.mp h
    rw [List.map_cons, List.sum_cons, one_sum a p r h2]
    by_cases e : p = q
    · subst e
      rw [if_pos rfl, if_neg h1, if_pos List.mem_cons_self]
      rfl
    · rw [if_neg e, Nat.zero_add]
      by_cases m : p ∈ r
      · rw [if_pos m, if_pos (List.mem_cons_of_mem _ m)]
      · rw [if_neg m, if_neg fun z => (List.mem_cons.mp z).elim e m]
theorem sum_add (f g : Nat → Nat) : ∀ l : List Nat, (l.map fun q => f q + g q).sum = (l.map f).sum + (l.map g).sum
  | [] => rfl
  | q :: r => by
    rw [List.map_cons, List.map_cons, List.map_cons, List.sum_cons, List.sum_cons, List.sum_cons, sum_add f g r]
    omega
theorem sum_zero : ∀ l : List Nat, (l.map fun _ => 0).sum = 0
  | [] => rfl
  | q :: r => by rw [List.map_cons, List.sum_cons, sum_zero r]
theorem amounts_sum (buy : Bool) (qs : List Nat) (nd : qs.Nodup) : ∀ l : List O, (qs.map (amountAt l buy)).sum = ((l.filter fun o => o.s.buy == buy && decide (o.s.price ∈ qs)).map fun o => o.s.amount).sum
  | [] => sum_zero qs
  | o :: l => by
    have e : (fun q => amountAt (o :: l) buy q) = fun q => (if (o.s.buy == buy && decide (o.s.price = q)) = true then o.s.amount else 0) + amountAt l buy q := funext fun q => amountAt_cons l o buy q
    show (qs.map fun q => amountAt (o :: l) buy q).sum = _
    rw [e, sum_add, amounts_sum buy qs nd l, List.filter_cons]
    cases hb : (o.s.buy == buy) with
    | false =>
      have : (fun q : Nat => if (false && decide (o.s.price = q)) = true then o.s.amount else 0) = fun _ => 0 := funext fun q => by simp
      rw [this, sum_zero]
      simp
    | true =>
      have : (fun q : Nat => if (true && decide (o.s.price = q)) = true then o.s.amount else 0) = fun q => if o.s.price = q then o.s.amount else 0 := funext fun q => by simp
      rw [this, one_sum _ _ _ nd]
      by_cases m : o.s.price ∈ qs
      · rw [if_pos m, if_pos (by simp [m]), List.map_cons, List.sum_cons]
      · rw [if_neg m, if_neg (by simp [m]), Nat.zero_add]
/-- the prices at which something rests, rising -/
structure Prices (m : B) (ps : List Nat) : Prop where
  up : ps.Pairwise (· < ·)
  mem : ∀ p, p ∈ ps ↔ ∃ o ∈ m.rs, o.s.price = p
theorem Prices.nd {m : B} {ps : List Nat} (h : Prices m ps) : ps.Nodup := h.up.imp fun {a b} z => Nat.ne_of_lt z
theorem supply_is {m : B} {ps : List Nat} (h : Prices m ps) {p : Nat} (hp : p ∈ ps) : wish (amountAt m.rs false) ps p = Sd17.supply (ab m) p := by
  rw [wish_upTo, amounts_sum false _ (h.nd.sublist (upTo_sub _ _))]
  unfold Sd17.supply
  apply filter_sum_congr
  intro o ho
  have e : o.s.price ∈ upTo ps p ↔ o.s.price ≤ p := by
    rw [mem_upTo (R := (· < ·)) (fun x => Nat.lt_irrefl x) (fun x y a b => Nat.lt_asymm a b) ps p h.up hp]
    constructor
    · rintro ⟨_, z | z⟩
      · exact Nat.le_of_lt z
      · exact Nat.le_of_eq z
    · exact fun z => ⟨(h.mem _).mpr ⟨o, ho, rfl⟩, (Nat.lt_or_eq_of_le z)⟩
  cases o.s.buy <;> simp [e]
theorem demand_is {m : B} {ps : List Nat} (h : Prices m ps) {p : Nat} (hp : p ∈ ps) : wish (amountAt m.rs true) ps.reverse p = Sd17.demand (ab m) p := by
  rw [wish_upTo, amounts_sum true _ (((List.reverse_perm ps).nodup_iff.mpr h.nd).sublist (upTo_sub _ _))]
  unfold Sd17.demand
  apply filter_sum_congr
  intro o ho
  have e : o.s.price ∈ upTo ps.reverse p ↔ p ≤ o.s.price := by
    rw [mem_upTo (R := fun a b => b < a) (fun x => Nat.lt_irrefl x) (fun x y a b => Nat.lt_asymm a b) ps.reverse p (List.pairwise_reverse.mpr h.up) (List.mem_reverse.mpr hp)]
    constructor
    · rintro ⟨_, z | z⟩
      · exact Nat.le_of_lt z
      · exact Nat.le_of_eq z.symm
    · exact fun z => ⟨List.mem_reverse.mpr ((h.mem _).mpr ⟨o, ho, rfl⟩), (Nat.lt_or_eq_of_le z).elim .inl fun z => .inr z.symm⟩
  cases o.s.buy <;> simp [e]
/-- what is traded at a price -/
def vol (b : Sd17.Book) (p : Nat) : Nat := min (Sd17.demand b p) (Sd17.supply b p)
def gap (b : Sd17.Book) (p : Nat) : Nat := Sd17.apart (Sd17.demand b p) (Sd17.supply b p)
theorem finer_is (b : Sd17.Book) (p q : Nat) : Sd17.finer b p q = if vol b p ≠ vol b q then decide (vol b q < vol b p) else if gap b p ≠ gap b q then decide (gap b p < gap b q) else if dist p b.last ≠ dist q b.last then decide (dist p b.last < dist q b.last) else decide (p < q) := rfl
theorem finer_trans {b : Sd17.Book} {p q r : Nat} (h1 : Sd17.finer b p q = true) (h2 : Sd17.finer b q r = true) : Sd17.finer b p r = true := by
  rw [finer_is] at h1 h2 ⊢
  generalize vol b p = a1 at *
  generalize vol b q = a2 at *
  generalize vol b r = a3 at *
  generalize gap b p = c1 at *
  generalize gap b q = c2 at *
  generalize gap b r = c3 at *
  generalize dist p b.last = d1 at *
  generalize dist q b.last = d2 at *
  generalize dist r b.last = d3 at *
  split at h1 <;> split at h2
  · have := of_decide_eq_true h1
    have := of_decide_eq_true h2
    rw [if_pos (by omega)]
    exact decide_eq_true (by omega)
  · have := of_decide_eq_true h1
    rw [if_pos (by omega)]
    exact decide_eq_true (by omega)
  · have := of_decide_eq_true h2
    rw [if_pos (by omega)]
    exact decide_eq_true (by omega)
  · rw [if_neg (by omega)]
    split at h1 <;> split at h2
    · have := of_decide_eq_true h1
      have := of_decide_eq_true h2
      rw [if_pos (by omega)]
      exact decide_eq_true (by omega)
    · have := of_decide_eq_true h1
      rw [if_pos (by omega)]
      exact decide_eq_true (by omega)
    · have := of_decide_eq_true h2
      rw [if_pos (by omega)]
      exact decide_eq_true (by omega)
    · rw [if_neg (by omega)]
      split at h1 <;> split at h2
      · have := of_decide_eq_true h1
        have := of_decide_eq_true h2
        rw [if_pos (by omega)]
        exact decide_eq_true (by omega)
      · have := of_decide_eq_true h1
        rw [if_pos (by omega)]
        exact decide_eq_true (by omega)
      · have := of_decide_eq_true h2
        rw [if_pos (by omega)]
        exact decide_eq_true (by omega)
      · rw [if_neg (by omega)]
        have := of_decide_eq_true h1
        have := of_decide_eq_true h2
        exact decide_eq_true (by omega)
theorem finer_or {b : Sd17.Book} {p q : Nat} (h : p ≠ q) : Sd17.finer b p q = true ∨ Sd17.finer b q p = true := by
  rw [finer_is, finer_is]
  generalize vol b p = a1
  generalize vol b q = a2
  generalize gap b p = c1
  generalize gap b q = c2
  generalize dist p b.last = d1
  generalize dist q b.last = d2
  by_cases e1 : a1 = a2
  · rw [if_neg (show ¬ a1 ≠ a2 by omega), if_neg (show ¬ a2 ≠ a1 by omega)]
    by_cases e2 : c1 = c2
    · rw [if_neg (show ¬ c1 ≠ c2 by omega), if_neg (show ¬ c2 ≠ c1 by omega)]
      by_cases e3 : d1 = d2
      · rw [if_neg (show ¬ d1 ≠ d2 by omega), if_neg (show ¬ d2 ≠ d1 by omega), decide_eq_true_iff, decide_eq_true_iff]
        omega
      · rw [if_pos (show d1 ≠ d2 by omega), if_pos (show d2 ≠ d1 by omega), decide_eq_true_iff, decide_eq_true_iff]
        omega
    · rw [if_pos (show c1 ≠ c2 by omega), if_pos (show c2 ≠ c1 by omega), decide_eq_true_iff, decide_eq_true_iff]
      omega
  · rw [if_pos (show a1 ≠ a2 by omega), if_pos (show a2 ≠ a1 by omega), decide_eq_true_iff, decide_eq_true_iff]
    omega
theorem finer_irr (b : Sd17.Book) (p : Nat) : Sd17.finer b p p = false := by
  rw [finer_is, if_neg (by omega), if_neg (by omega), if_neg (by omega)]
  exact decide_eq_false (by omega)
/-- a fold that keeps the finest of those that are let in -/
def pick (b : Sd17.Book) (ok : Nat → Bool) (m : Option Nat) (q : Nat) : Option Nat := if ok q = true then (match m with
    | none => some q
    | some x => if Sd17.finer b q x = true then some q else some x) else m
structure Finest (b : Sd17.Book) (ok : Nat → Bool) (l : List Nat) (r : Option Nat) : Prop where
  no : r = none → ∀ q ∈ l, ok q = false
  yes : ∀ x, r = some x → x ∈ l ∧ ok x = true ∧ ∀ q ∈ l, ok q = true → Sd17.finer b q x = false
theorem finest (b : Sd17.Book) (ok : Nat → Bool) : ∀ (l pre : List Nat) (r : Option Nat), Finest b ok pre r → Finest b ok (pre ++ l) (l.foldl (pick b ok) r)
  | [], pre, r, h => by rw [List.append_nil]; exact h
  | q :: l, pre, r, h => by
    have e : pre ++ q :: l = (pre ++ [q]) ++ l := by simp
    rw [e, List.foldl_cons]
    apply finest b ok l
    unfold pick
    by_cases c : ok q = true
    · rw [if_pos c]
      cases r with
      | none =>
        refine ⟨fun z => (nomatch z), fun x z => ?_⟩
        cases z
        refine ⟨List.mem_append_right _ (List.mem_singleton.mpr rfl), c, fun y hy oy => ?_⟩
        rcases List.mem_append.mp hy with hy | hy
        · rw [h.no rfl y hy] at oy
          cases oy
        · rw [List.mem_singleton.mp hy]
          exact finer_irr b q
      | some x =>
        obtain ⟨h1, h2, h3⟩ := h.yes x rfl
        cases d : Sd17.finer b q x with
        | true =>
          show Finest b ok (pre ++ [q]) (if Sd17.finer b q x = true then some q else some x)
          rw [d, if_pos rfl]
          refine ⟨fun z => (nomatch z), fun y z => ?_⟩
          cases z
          refine ⟨List.mem_append_right _ (List.mem_singleton.mpr rfl), c, fun y hy oy => ?_⟩
          rcases List.mem_append.mp hy with hy | hy
          · cases f : Sd17.finer b y q with
            | false => rfl
            | true =>
              have := finer_trans f d
              rw [h3 y hy oy] at this
              cases this
          · rw [List.mem_singleton.mp hy]
            exact finer_irr b q
        | false =>
          show Finest b ok (pre ++ [q]) (if Sd17.finer b q x = true then some q else some x)
          rw [d, if_neg Bool.false_ne_true]
          refine ⟨fun z => (nomatch z), fun y z => ?_⟩
          cases z
          refine ⟨List.mem_append_left _ h1, h2, fun y hy oy => ?_⟩
          rcases List.mem_append.mp hy with hy | hy
          · exact h3 y hy oy
          · rw [List.mem_singleton.mp hy]
            exact d
    · rw [if_neg c]
      have c : ok q = false := by cases h : ok q; rfl; exact absurd h c
      refine ⟨fun z y hy => ?_, fun x z => ?_⟩
      · rcases List.mem_append.mp hy with hy | hy
        · exact h.no z y hy
        · rw [List.mem_singleton.mp hy]
          exact c
      · obtain ⟨h1, h2, h3⟩ := h.yes x z
        refine ⟨List.mem_append_left _ h1, h2, fun y hy oy => ?_⟩
        rcases List.mem_append.mp hy with hy | hy
        · exact h3 y hy oy
        · rw [List.mem_singleton.mp hy, c] at oy
          cases oy
theorem finest0 (b : Sd17.Book) (ok : Nat → Bool) (l : List Nat) : Finest b ok l (l.foldl (pick b ok) none) := by
  have := finest b ok l [] none ⟨fun _ q hq => (by cases hq), fun x z => (by cases z)⟩
  exact this
theorem finest_one {b : Sd17.Book} {ok : Nat → Bool} {l : List Nat} {x y : Nat} (hx : x ∈ l ∧ ok x = true ∧ ∀ q ∈ l, ok q = true → Sd17.finer b q x = false) (hy : y ∈ l ∧ ok y = true ∧ ∀ q ∈ l, ok q = true → Sd17.finer b q y = false) : x = y := by
  by_cases h : x = y
  · exact h
  · rcases finer_or (b := b) h with z | z
    · rw [hy.2.2 x hx.1 hx.2.1] at z
      cases z
    · rw [hx.2.2 y hy.1 hy.2.1] at z
      cases z
/-- what the program keeps: the finest of the prices at which something is traded -/
def priceFold (b : Sd17.Book) (ps : List Nat) : Option Nat := ps.foldl (pick b fun q => decide (0 < vol b q)) none
theorem price_is {m : B} {ps : List Nat} (h : Prices m ps) : (priceFold (ab m) ps).getD 0 = priceNow m := by
  have F := finest0 (ab m) (fun q => decide (0 < vol (ab m) q)) ps
  have G := finest0 (ab m) (fun _ => true) ((ab m).rest.map fun o => o.price)
  have same : ∀ p, p ∈ ps ↔ p ∈ (ab m).rest.map fun o => o.price := fun p => by
    rw [h.mem]
    show _ ↔ p ∈ (m.rs.map (·.s)).map fun o => o.price
    rw [List.map_map, List.mem_map]
    rfl
  unfold priceNow
  have ec : Sd17.clearing (ab m) = (((ab m).rest.map fun o => o.price).foldl (pick (ab m) fun _ => true) none).bind fun x => if min (Sd17.demand (ab m) x) (Sd17.supply (ab m) x) = 0 then none else some x := by
    unfold Sd17.clearing
    have ef : (fun (m' : Option Nat) q => match m' with
        | none => some q
        | some x => if Sd17.finer (ab m) q x = true then some q else some x) = pick (ab m) fun _ => true := by
      funext m' q
      unfold pick
      rw [if_pos rfl]
    dsimp only
    first
      | rw [ef]
      | (have ef2 : ∀ l : List Nat, ∀ a, l.foldl (fun (m' : Option Nat) q => match m' with
          | none => some q
          | some x => if Sd17.finer (ab m) q x = true then some q else some x) a = l.foldl (pick (ab m) fun _ => true) a := fun l a => by rw [ef]
         exact congrArg (fun z => Option.bind z _) (ef2 _ _))
  rw [ec]
  unfold priceFold
  generalize ps.foldl (pick (ab m) fun q => decide (0 < vol (ab m) q)) none = r at F ⊢
  generalize ((ab m).rest.map fun o => o.price).foldl (pick (ab m) fun _ => true) none = t at G ⊢
  cases t with
  | none =>
    have emp : ps = [] := by
      cases ps with
      | nil => rfl
      | cons p l =>
        have := G.no rfl p ((same p).mp List.mem_cons_self)
        cases this
    subst emp
    cases r with
    | none => rfl
    | some x => cases (F.yes x rfl).1
  | some x =>
    obtain ⟨g1, _, g3⟩ := G.yes x rfl
    show r.getD 0 = (if vol (ab m) x = 0 then none else some x).getD 0
    by_cases v : vol (ab m) x = 0
    · rw [if_pos v]
      cases r with
      | none => rfl
      | some y =>
        obtain ⟨f1, f2, _⟩ := F.yes y rfl
        have f2 := of_decide_eq_true f2
        have := g3 y ((same y).mp f1) rfl
        rw [finer_is, if_pos (by omega)] at this
        have := of_decide_eq_false this
        omega
    · rw [if_neg v]
      cases r with
      | none =>
        have := F.no rfl x ((same x).mpr g1)
        have := of_decide_eq_false this
        omega
      | some y =>
        obtain ⟨f1, f2, f3⟩ := F.yes y rfl
        have f2 := of_decide_eq_true f2
        have : x = y := by
          by_cases hxy : x = y
          · exact hxy
          · rcases finer_or (b := ab m) hxy with z | z
            · have := f3 x ((same x).mpr g1) (decide_eq_true (Nat.pos_of_ne_zero v))
              rw [this] at z
              cases z
            · have := g3 y ((same y).mp f1) rfl
              rw [this] at z
              cases z
        rw [this]
theorem nodup_len : ∀ (ps l : List Nat), ps.Nodup → (∀ p ∈ ps, p ∈ l) → ps.length ≤ l.length
  | [], _, _, _ => Nat.zero_le _
  | p :: r, l, nd, h => by
    obtain ⟨h1, h2⟩ := List.nodup_cons.mp nd
    have hp := h p List.mem_cons_self
    have := nodup_len r (l.erase p) h2 fun x hx => (List.mem_erase_of_ne fun e => h1 (by rw [← e]; exact hx)).mpr (h x (List.mem_cons_of_mem _ hx))
    rw [List.length_erase_of_mem hp] at this
    have : 0 < l.length := List.length_pos_of_mem hp
    show r.length + 1 ≤ l.length
    omega
end SB

/-! # The mathematics: the calls -/
namespace SB
def cast (n : Nat) : Int := (n : Int)
theorem ints_is (l : List Nat) : Sd17Neutral.ints l = l.map fun n : Nat => (n : Int) := rfl
structure StepOk (m : B) (y : B × List Int) (s : Sd17.Book × List Int) : Prop where
  eq : s = (ab y.1, y.2)
  gd : Gd [] y.1
  ev : y.1.ev = []
  len : y.1.rs.length + y.1.ws.length ≤ 1024
theorem says_ok {m m' : B} {evs : List Sd17.Ev} (g : Gd [] m') (e : m'.ev = m.ev ++ evs) (h0 : m.ev = []) (hl : m'.rs.length + m'.ws.length ≤ 1024) : StepOk m (saysM m') (ab m', (evs.length : Int) :: Sd17Neutral.ints (evs.flatMap Sd17.numbers ++ [])) := by
  have e' : m'.ev = evs := by rw [e, h0]; rfl
  refine ⟨?_, ⟨g.nid, g.nad, g.rok, g.wok⟩, rfl, hl⟩
  show _ = (ab m', toldOf m'.ev)
  rw [e', List.append_nil]
  rfl
theorem same_ok {m : B} (g : Gd [] m) (h0 : m.ev = []) (hl : m.rs.length + m.ws.length ≤ 1024) (v : Int) : StepOk m (m, [v]) (ab m, v :: Sd17Neutral.ints (([] : List Sd17.Ev).flatMap Sd17.numbers ++ [])) := ⟨rfl, g, h0, hl⟩
/-! ## look -/
theorem side_sim (m : B) (buy : Bool) : (match Sd17.best buy (spc m.rs) with
    | none => [0, 0]
    | some o => [o.price, (((spc m.rs).filter fun r => r.buy == buy && r.price == o.price).map fun r => r.amount).sum]) = side m buy := by
  rw [best_sim]
  unfold side
  cases best m.rs buy with
  | none => rfl
  | some o =>
    show [o.s.price, _] = [o.s.price, _]
    congr 2
    exact (filter_sum_congr m.rs _ _ fun r _ => by
      show (r.s.buy == buy && decide (r.s.price = o.s.price)) = (r.s.buy == buy && r.s.price == o.s.price)
      rfl).symm
theorem look_sim {m : B} (g : Gd [] m) (h0 : m.ev = []) (hl : m.rs.length + m.ws.length ≤ 1024) : StepOk m (lookM m) (Sd17Neutral.step (ab m) [[5]]) := by
  refine ⟨?_, g, h0, hl⟩
  show (ab m, (0 : Int) :: Sd17Neutral.ints (([] : List Sd17.Ev).flatMap Sd17.numbers ++ _)) = (ab m, 0 :: (seen m).map fun n : Nat => (n : Int))
  congr 2
  show Sd17Neutral.ints (_ ++ _ ++ _) = _
  rw [ints_is]
  congr 1
  have a := side_sim m true
  have b := side_sim m false
  unfold seen priceNow
  rw [← a, ← b]
  rfl
/-! ## cancel -/
theorem find_congr {α : Type} {p q : α → Bool} : ∀ {l : List α}, (∀ x ∈ l, p x = q x) → l.find? p = l.find? q
  | [], _ => rfl
  | x :: l, h => by
    rw [List.find?_cons, List.find?_cons, h x List.mem_cons_self, find_congr fun y hy => h y (List.mem_cons_of_mem _ hy)]
theorem find_sim {l : List O} {n : Int} (h : ∀ o ∈ l, 1 ≤ o.s.id) : (spc l).find? (fun o => o.id == n.toNat) = (has l n).map (·.s) := by
  unfold spc has
  rw [List.find?_map]
  congr 1
  apply find_congr
  intro o ho
  have := h o ho
  show (o.s.id == n.toNat) = decide ((o.s.id : Int) = n)
  by_cases e : (o.s.id : Int) = n
  · rw [decide_eq_true e]
    exact beq_iff_eq.mpr (by omega)
  · rw [decide_eq_false e]
    exact beq_eq_false_iff_ne.mpr (by omega)
theorem has_mem {l : List O} {n : Int} {o : O} (h : has l n = some o) : o ∈ l ∧ (o.s.id : Int) = n := by
  unfold has at h
  have q := List.find?_some (p := fun o : O => decide ((o.s.id : Int) = n)) h
  exact ⟨List.mem_of_find?_eq_some h, of_decide_eq_true q⟩
theorem Gd.id_pos {q : List O} {m : B} (g : Gd q m) : ∀ o ∈ m.rs ++ m.ws, 1 ≤ o.s.id := fun o h => (List.mem_append.mp h).elim (fun z => (g.rok o z).id) (fun z => (g.wok o z).id)
theorem cancel_sim {m : B} (g : Gd [] m) (h0 : m.ev = []) (hl : m.rs.length + m.ws.length ≤ 1024) (n : Int) : StepOk m (cancelM m n) (Sd17Neutral.step (ab m) [[2, n]]) := by
  have f := find_sim (n := n) g.id_pos
  rw [spc_app] at f
  have e : Sd17Neutral.step (ab m) [[2, n]] = ((Sd17.step (ab m) (.cancel n.toNat)).1, (Sd17.step (ab m) (.cancel n.toNat)).2.value :: Sd17Neutral.ints ((Sd17.step (ab m) (.cancel n.toNat)).2.evs.flatMap Sd17.numbers ++ (Sd17.step (ab m) (.cancel n.toNat)).2.seen)) := rfl
  rw [e]
  unfold cancelM
  cases c : has (m.rs ++ m.ws) n with
  | none =>
    rw [c] at f
    have e2 : Sd17.step (ab m) (.cancel n.toNat) = (ab m, Sd17.no (-1)) := by
      show (match (spc m.rs ++ spc m.ws).find? (fun o => o.id == n.toNat) with
        | none => (ab m, Sd17.no (-1))
        | some o => Sd17.told ({ ab m with rest := Sd17.gone n.toNat (ab m).rest, stops := Sd17.gone n.toNat (ab m).stops }, [.ended n.toNat 1 o.price o.amount])) = _
      rw [f]
      rfl
    rw [e2]
    exact same_ok g h0 hl (-1)
  | some o =>
    rw [c] at f
    obtain ⟨hm, hn⟩ := has_mem c
    have hid : n.toNat = o.s.id := by omega
    have e2 : Sd17.step (ab m) (.cancel n.toNat) = (ab (cancel m o), ⟨1, [.ended o.s.id 1 o.s.price o.s.amount], []⟩) := by
      show (match (spc m.rs ++ spc m.ws).find? (fun o => o.id == n.toNat) with
        | none => (ab m, Sd17.no (-1))
        | some o => Sd17.told ({ ab m with rest := Sd17.gone n.toNat (ab m).rest, stops := Sd17.gone n.toNat (ab m).stops }, [.ended n.toNat 1 o.price o.amount])) = _
      rw [f, hid]
      show ((({ rest := Sd17.gone o.s.id (spc m.rs), stops := Sd17.gone o.s.id (spc m.ws), last := m.lat, auction := m.auc } : Sd17.Book)), _) = _
      rw [← out_gone, ← out_gone]
      rfl
    rw [e2]
    refine says_ok (m' := cancel m o) (evs := [.ended o.s.id 1 o.s.price o.s.amount]) ((g.takeOut _).tell _) rfl h0 ?_
    exact Nat.le_trans (Nat.add_le_add (out_length _ _) (out_length _ _)) hl
/-! ## auction -/
theorem auction_sim {m : B} (g : Gd [] m) (h0 : m.ev = []) (hl : m.rs.length + m.ws.length ≤ 1024) (n : Int) : StepOk m (auctionM m n) (Sd17Neutral.step (ab m) [[4, n]]) := by
  have e : Sd17Neutral.step (ab m) [[4, n]] = ((Sd17.step (ab m) (.auction (decide (n ≠ 0)))).1, (Sd17.step (ab m) (.auction (decide (n ≠ 0)))).2.value :: Sd17Neutral.ints ((Sd17.step (ab m) (.auction (decide (n ≠ 0)))).2.evs.flatMap Sd17.numbers ++ (Sd17.step (ab m) (.auction (decide (n ≠ 0)))).2.seen)) := rfl
  rw [e]
  unfold auctionM
  have e2 : Sd17.step (ab m) (.auction (decide (n ≠ 0))) = if decide (n ≠ 0) = m.auc then (ab m, Sd17.no (-1)) else if decide (n ≠ 0) = true then Sd17.told ({ ab m with auction := true }, []) else Sd17.told (Sd17.uncross (ab m)) := rfl
  rw [e2]
  by_cases c : m.auc = decide (n ≠ 0)
  · rw [if_pos c, if_pos c.symm]
    exact same_ok g h0 hl (-1)
  · rw [if_neg c, if_neg (show ¬ (decide (n ≠ 0) = m.auc) from fun z => c z.symm)]
    by_cases d : n ≠ 0
    · rw [if_pos d, if_pos (decide_eq_true d)]
      exact says_ok (m := m) (m' := { m with auc := true }) (evs := []) ⟨g.nid, g.nad, g.rok, g.wok⟩ (List.append_nil _).symm h0 hl
    · rw [if_neg d, if_neg (by rw [decide_eq_false d]; decide)]
      obtain ⟨evs, s1, s2⟩ := endAuc_sim g
      rw [s1]
      obtain ⟨a, b, _, l⟩ := endAuc_ok g
      exact says_ok a s2 h0 (Nat.le_trans l hl)
/-! ## change -/
theorem priceOk_iff (p : Int) : priceOk p = true ↔ ¬ (p.toNat = 0 ∨ 1000000 < p.toNat) := by
  unfold priceOk
  rw [Bool.and_eq_true, decide_eq_true_iff, decide_eq_true_iff]
  omega
theorem change_sim {m : B} (g : Gd [] m) (h0 : m.ev = []) (hl : m.rs.length + m.ws.length ≤ 1024) (x : Nat) (hx : x ∉ adrs m.rs ∧ x ∉ adrs m.ws) (n p a : Int) : StepOk m (changeM m x n p a) (Sd17Neutral.step (ab m) [[3, n, p, a]]) := by
  have f := find_sim (l := m.rs) (n := n) fun o h => (g.rok o h).id
  have e : Sd17Neutral.step (ab m) [[3, n, p, a]] = ((Sd17.step (ab m) (.change n.toNat p.toNat a.toNat)).1, (Sd17.step (ab m) (.change n.toNat p.toNat a.toNat)).2.value :: Sd17Neutral.ints ((Sd17.step (ab m) (.change n.toNat p.toNat a.toNat)).2.evs.flatMap Sd17.numbers ++ (Sd17.step (ab m) (.change n.toNat p.toNat a.toNat)).2.seen)) := rfl
  rw [e]
  have es : Sd17.step (ab m) (.change n.toNat p.toNat a.toNat) = (match (spc m.rs).find? (fun o => o.id == n.toNat) with
      | none => (ab m, Sd17.no (-1))
      | some o => if p.toNat = 0 ∨ Sd17.MOST < p.toNat ∨ a.toNat = 0 ∨ Sd17.MOST < a.toNat then (ab m, Sd17.no (-1))
        else if p.toNat = o.price ∧ a.toNat ≤ o.amount then Sd17.told ({ ab m with rest := Sd17.left n.toNat a.toNat (ab m).rest }, [.rests n.toNat p.toNat a.toNat])
        else if (ab m).auction = true then Sd17.told ({ ab m with rest := Sd17.gone n.toNat (ab m).rest ++ [{ o with price := p.toNat, amount := a.toNat }] }, [.rests n.toNat p.toNat a.toNat]) else Sd17.told (Sd17.settle (Sd17.come { o with price := p.toNat, amount := a.toNat } { ab m with rest := Sd17.gone n.toNat (ab m).rest }))) := rfl
  rw [es, f]
  unfold changeM
  cases c : has m.rs n with
  | none => exact same_ok g h0 hl (-1)
  | some o =>
    obtain ⟨hm, hn⟩ := has_mem c
    have hid : n.toNat = o.s.id := by omega
    have r := g.rok o hm
    rw [hid]
    show StepOk m (if (priceOk p && priceOk a) = true then saysM (change m o x p.toNat a.toNat) else (m, [-1])) _
    by_cases d : (priceOk p && priceOk a) = true
    · rw [if_pos d]
      rw [Bool.and_eq_true, priceOk_iff, priceOk_iff] at d
      have d' : ¬ (p.toNat = 0 ∨ Sd17.MOST < p.toNat ∨ a.toNat = 0 ∨ Sd17.MOST < a.toNat) := by
        unfold Sd17.MOST
        omega
      dsimp only [Option.map]
      rw [if_neg d']
      unfold change
      by_cases k : p.toNat = o.s.price ∧ a.toNat ≤ o.s.amount
      · rw [if_pos k, if_pos k]
        have ha : 1 ≤ a.toNat := by omega
        have el : Sd17.left o.s.id a.toNat (ab m).rest = spc (setA o.adr a.toNat m.rs) := by
          have := left_sim g.nid_rs g.nad_rs hm a.toNat
          rw [if_neg (by omega)] at this
          exact this
        have ew : setA o.adr a.toNat m.ws = m.ws := setA_other (g.rs_ws hm).2
        have eb : ({ rest := Sd17.left o.s.id a.toNat (ab m).rest, stops := (ab m).stops, last := (ab m).last, auction := (ab m).auction } : Sd17.Book) = ab ((m.setAmt o.adr a.toNat).tell (.rests o.s.id p.toNat a.toNat)) := by
          rw [el]
          refine (ab_of (m := (m.setAmt o.adr a.toNat).tell (.rests o.s.id p.toNat a.toNat)) rfl ?_ rfl rfl).symm
          show spc (setA o.adr a.toNat m.ws) = _
          rw [ew]
          rfl
        show StepOk m _ ((({ rest := Sd17.left o.s.id a.toNat (ab m).rest, stops := (ab m).stops, last := (ab m).last, auction := (ab m).auction } : Sd17.Book)), _)
        rw [eb]
        refine says_ok (m := m) (evs := [.rests o.s.id p.toNat a.toNat]) ((g.setAmt hm ha).tell _) rfl h0 ?_
        show (setA o.adr a.toNat m.rs).length + (setA o.adr a.toNat m.ws).length ≤ 1024
        rw [setA_length, setA_length]
        exact hl
      · rw [if_neg k, if_neg k]
        have G := like_gd g hm x p.toNat a.toNat hx
        have TK := like_take r x p.toNat a.toNat (by omega) (by omega)
        have hk0 : (m.takeOut o.s.id).auc = true → ((o.like x p.toNat a.toNat).k = 0 ∨ (o.like x p.toNat a.toNat).k = 5 ∨ (o.like x p.toNat a.toNat).k = 6) := fun _ => .inl rfl
        obtain ⟨evs, s1, s2⟩ := take_sim G TK hk0
        have G2 := take_gd (take1_gd G TK hk0)
        have kd : (o.like x p.toNat a.toNat).s.kind = 0 := r.kind
        rw [kd] at s1
        have ec : ({ rest := Sd17.gone o.s.id (ab m).rest, stops := (ab m).stops, last := (ab m).last, auction := (ab m).auction } : Sd17.Book) = ab (m.takeOut o.s.id) := by
          refine (ab_of (m := m.takeOut o.s.id) (out_gone _ _) ?_ rfl rfl).symm
          show spc (out o.s.id m.ws) = _
          rw [out_other (g.rs_ws hm).1]
          rfl
        have len2 : (take (m.takeOut o.s.id) (o.like x p.toNat a.toNat)).rs.length + (take (m.takeOut o.s.id) (o.like x p.toNat a.toNat)).ws.length ≤ 1024 := by
          have T1 := (take1_keeps G).2.1
          have lo : (m.takeOut o.s.id).rs.length + (m.takeOut o.s.id).ws.length + 1 ≤ 1024 := by
            have h1 : (m.takeOut o.s.id).rs.length < m.rs.length := out_less hm
            have h2 : (m.takeOut o.s.id).ws.length ≤ m.ws.length := out_length _ _
            omega
          unfold take
          split
          · omega
          · have := (trigAll_ok (take1_gd G TK hk0)).2.2.2
            omega
        have fin : ∀ s : Sd17.Book × List Sd17.Ev, s = (ab (take (m.takeOut o.s.id) (o.like x p.toNat a.toNat)), evs) → StepOk m (saysM (take (m.takeOut o.s.id) (o.like x p.toNat a.toNat))) ((Sd17.told s).1, (Sd17.told s).2.value :: Sd17Neutral.ints ((Sd17.told s).2.evs.flatMap Sd17.numbers ++ (Sd17.told s).2.seen)) := fun s e => by
          rw [e]
          exact says_ok G2 s2 h0 len2
        by_cases u : m.auc = true
        · have u' : (m.takeOut o.s.id).auc = true := u
          rw [if_pos u', if_pos rfl] at s1
          rw [if_pos (show (ab m).auction = true from u)]
          refine fin _ ?_
          rw [← s1]
          show (({ rest := Sd17.gone o.s.id (ab m).rest ++ [_], stops := (ab m).stops, last := (ab m).last, auction := (ab m).auction } : Sd17.Book), _) = (({ rest := (ab (m.takeOut o.s.id)).rest ++ [_], stops := (ab (m.takeOut o.s.id)).stops, last := (ab (m.takeOut o.s.id)).last, auction := (ab (m.takeOut o.s.id)).auction } : Sd17.Book), _)
          rw [← ec]
          rfl
        · have u' : ¬ (m.takeOut o.s.id).auc = true := u
          rw [if_neg u', if_neg (by decide)] at s1
          rw [if_neg (show ¬ (ab m).auction = true from u)]
          refine fin _ ?_
          rw [← s1, ← ec]
          rfl
    · rw [if_neg d]
      have d' : p.toNat = 0 ∨ Sd17.MOST < p.toNat ∨ a.toNat = 0 ∨ Sd17.MOST < a.toNat := by
        rw [Bool.and_eq_true, priceOk_iff, priceOk_iff] at d
        unfold Sd17.MOST
        omega
      dsimp only [Option.map]
      rw [if_pos d']
      exact same_ok g h0 hl (-1)
/-! ## order -/
theorem priced_iff (k : Int) : priced k = true ↔ k ≠ 1 ∧ k ≠ 5 := by
  unfold priced
  rw [Bool.and_eq_true, decide_eq_true_iff, decide_eq_true_iff]
theorem stopK_iff (k : Int) : stopK k = true ↔ k = 5 ∨ k = 6 := by
  unfold stopK
  rw [Bool.or_eq_true, decide_eq_true_iff, decide_eq_true_iff]
theorem isOrd_iff (nu ow si ki pr am tr : Int) : isOrd nu ow si ki pr am tr = true ↔ 1 ≤ nu ∧ 1 ≤ ow ∧ ow ≤ 255 ∧ (si = 0 ∨ si = 1) ∧ 0 ≤ ki ∧ ki ≤ 6 ∧ (ki = 1 ∨ ki = 5 ∨ (1 ≤ pr ∧ pr ≤ 1000000)) ∧ (ki < 5 ∨ (1 ≤ tr ∧ tr ≤ 1000000)) ∧ 1 ≤ am ∧ am ≤ 1000000 := by
  unfold isOrd
  have pr1 : (!priced ki || priceOk pr) = true ↔ (ki = 1 ∨ ki = 5 ∨ (1 ≤ pr ∧ pr ≤ 1000000)) := by
    unfold priceOk
    rw [Bool.or_eq_true, Bool.not_eq_true', Bool.and_eq_true, decide_eq_true_iff, decide_eq_true_iff, ← Bool.not_eq_true, priced_iff]
    omega
  have tr1 : (!stopK ki || priceOk tr) = true ↔ (¬ (ki = 5 ∨ ki = 6) ∨ (1 ≤ tr ∧ tr ≤ 1000000)) := by
    unfold priceOk
    rw [Bool.or_eq_true, Bool.not_eq_true', Bool.and_eq_true, decide_eq_true_iff, decide_eq_true_iff, ← Bool.not_eq_true, stopK_iff]
  have am1 : priceOk am = true ↔ (1 ≤ am ∧ am ≤ 1000000) := by
    unfold priceOk
    rw [Bool.and_eq_true, decide_eq_true_iff, decide_eq_true_iff]
  rw [Bool.and_eq_true, Bool.and_eq_true, Bool.and_eq_true, Bool.and_eq_true, Bool.and_eq_true, Bool.and_eq_true, Bool.and_eq_true, Bool.and_eq_true, Bool.and_eq_true, pr1, tr1, am1]
  simp only [decide_eq_true_iff]
  omega
structure Made (nu ow si ki pr am tr : Int) (s : Sd17.Order) : Prop where
  id : s.id = if si = 0 ∨ si = 1 then nu.toNat else 0
  who : s.who = ow.toNat
  buy : s.buy = (si == 0)
  kind : s.kind = if ki < 0 then 99 else ki.toNat
  price : s.price = if s.kind = 1 ∨ s.kind = 5 then 0 else pr.toNat
  amount : s.amount = am.toNat
  trigger : s.trigger = if s.kind < 5 then 0 else tr.toNat
theorem made (x : Nat) (nu ow si ki pr am tr : Int) : Made nu ow si ki pr am tr (mkO x nu ow si ki pr am tr).s := ⟨rfl, rfl, rfl, rfl, rfl, rfl, rfl⟩
theorem good_iff (nu ow si ki pr am tr : Int) (hn : nu < 2 ^ 31) : Sd17.good (Sd17Neutral.orderOf [nu, ow, si, ki, pr, am, tr]) = isOrd nu ow si ki pr am tr := by
  rw [Bool.eq_iff_iff, isOrd_iff]
  have h1 : (Sd17Neutral.orderOf [nu, ow, si, ki, pr, am, tr]).id = if si = 0 ∨ si = 1 then nu.toNat else 0 := rfl
  have h2 : (Sd17Neutral.orderOf [nu, ow, si, ki, pr, am, tr]).who = ow.toNat := rfl
  have h3 : (Sd17Neutral.orderOf [nu, ow, si, ki, pr, am, tr]).kind = if ki < 0 then 99 else ki.toNat := rfl
  have h4 : (Sd17Neutral.orderOf [nu, ow, si, ki, pr, am, tr]).price = pr.toNat := rfl
  have h5 : (Sd17Neutral.orderOf [nu, ow, si, ki, pr, am, tr]).amount = am.toNat := rfl
  have h6 : (Sd17Neutral.orderOf [nu, ow, si, ki, pr, am, tr]).trigger = tr.toNat := rfl
  generalize Sd17Neutral.orderOf [nu, ow, si, ki, pr, am, tr] = s at *
  have e : Sd17.good s = true ↔ (1 ≤ s.id ∧ s.id < 2 ^ 31 ∧ 1 ≤ s.who ∧ s.who ≤ 255 ∧ s.kind ≤ 6 ∧ 1 ≤ s.amount ∧ s.amount ≤ 1000000) ∧ (s.kind = 1 ∨ s.kind = 5 ∨ (1 ≤ s.price ∧ s.price ≤ 1000000)) ∧ (s.kind < 5 ∨ (1 ≤ s.trigger ∧ s.trigger ≤ 1000000)) := by
    unfold Sd17.good
    rw [Bool.and_eq_true, Bool.and_eq_true, Bool.or_eq_true, Bool.or_eq_true, Bool.or_eq_true, beq_iff_eq, beq_iff_eq]
    have d : ∀ (P : Prop) [Decidable P], decide P = true ↔ P := fun P _ => decide_eq_true_iff
    rw [d, d, d, d]
    exact Iff.rfl
  rw [e]
  constructor
  · rintro ⟨⟨a1, a2, a3, a4, a5, a6, a7⟩, b, c⟩
    have hs : si = 0 ∨ si = 1 := by
      by_cases z : si = 0 ∨ si = 1
      · exact z
      · rw [if_neg z] at h1
        rw [h1] at a1
        exact absurd a1 (by decide)
    rw [if_pos hs] at h1
    have hk : ¬ ki < 0 := fun z => by
      rw [if_pos z] at h3
      rw [h3] at a5
      exact absurd a5 (by decide)
    rw [if_neg hk] at h3
    rw [h1] at a1
    rw [h2] at a3 a4
    rw [h3] at a5 b c
    rw [h4] at b
    rw [h5] at a6 a7
    rw [h6] at c
    clear h1 h2 h3 h4 h5 h6 a2 e
    have hb : ki = 1 ∨ ki = 5 ∨ 1 ≤ pr ∧ pr ≤ 1000000 := by
      rcases b with b | b | ⟨b1, b2⟩
      · exact .inl (by omega)
      · exact .inr (.inl (by omega))
      · exact .inr (.inr ⟨by omega, by omega⟩)
    have hc : ki < 5 ∨ 1 ≤ tr ∧ tr ≤ 1000000 := by
      rcases c with c | ⟨c1, c2⟩
      · exact .inl (by omega)
      · exact .inr ⟨by omega, by omega⟩
    clear b c
    exact ⟨by omega, by omega, by omega, hs, by omega, by omega, hb, hc, by omega, by omega⟩
  · rintro ⟨a1, a2, a3, hs, a4, a5, b, c, a6, a7⟩
    rw [if_pos hs] at h1
    rw [if_neg (by omega)] at h3
    have hb : ki.toNat = 1 ∨ ki.toNat = 5 ∨ (1 ≤ pr.toNat ∧ pr.toNat ≤ 1000000) := by
      rcases b with b | b | ⟨b1, b2⟩
      · exact .inl (by omega)
      · exact .inr (.inl (by omega))
      · exact .inr (.inr ⟨by omega, by omega⟩)
    have hc : ki.toNat < 5 ∨ (1 ≤ tr.toNat ∧ tr.toNat ≤ 1000000) := by
      rcases c with c | ⟨c1, c2⟩
      · exact .inl (by omega)
      · exact .inr ⟨by omega, by omega⟩
    rw [h1, h2, h3, h4, h5, h6]
    clear b c hs h1 h2 h3 h4 h5 h6 e
    exact ⟨⟨by omega, by omega, by omega, by omega, by omega, by omega, by omega⟩, hb, hc⟩
theorem made_take (x : Nat) {nu ow si ki pr am tr : Int} (h : isOrd nu ow si ki pr am tr = true) : TakeOk (mkO x nu ow si ki pr am tr) := by
  have M := made x nu ow si ki pr am tr
  rw [isOrd_iff] at h
  obtain ⟨b1, b2, b3, b4, b5, b6, b7, b8, b9, b10⟩ := h
  have h1 := M.id
  have h3 := M.kind
  have h4 := M.price
  have h5 := M.amount
  have h6 := M.trigger
  rw [if_pos b4] at h1
  rw [if_neg (by omega)] at h3
  have hk : (mkO x nu ow si ki pr am tr).k = ki := rfl
  have ht : (mkO x nu ow si ki pr am tr).t = tr := rfl
  generalize mkO x nu ow si ki pr am tr = o at *
  refine ⟨fun c => ⟨?_, by omega, fun z => ?_⟩, fun c => ⟨by omega, by omega, ?_, by omega, by omega, fun z => ?_⟩, by omega⟩
  · rw [hk] at c ⊢
    omega
  · rw [hk] at c
    rw [if_neg (by omega)] at h4
    omega
  · rw [hk] at c
    rw [if_neg (by omega)] at h6
    omega
  · rw [if_neg (by omega)] at h4
    omega
theorem known_sim {m : B} {nu : Int} (h1 : 1 ≤ nu) : Sd17.known (ab m) nu.toNat = (has (m.rs ++ m.ws) nu).isSome := by
  have e : ∀ l : List O, (spc l).any (fun o => o.id == nu.toNat) = (has l nu).isSome := fun l => by
    unfold spc has
    rw [List.any_map]
    rw [Bool.eq_iff_iff, List.any_eq_true, List.find?_isSome]
    constructor
    · rintro ⟨o, ho, e⟩
      have e : o.s.id = nu.toNat := eq_of_beq e
      exact ⟨o, ho, decide_eq_true (by omega)⟩
    · rintro ⟨o, ho, e⟩
      have e := of_decide_eq_true e
      exact ⟨o, ho, beq_iff_eq.mpr (by show o.s.id = nu.toNat; omega)⟩
  rw [← e, spc_app, List.any_append]
  rfl
theorem order_sim {m : B} (g : Gd [] m) (h0 : m.ev = []) (hl : m.rs.length + m.ws.length ≤ 1024) (x : Nat) (hx : x ∉ adrs m.rs ∧ x ∉ adrs m.ws) (nu ow si ki pr am tr : Int) (hn : nu < 2 ^ 31) :
    StepOk m (orderM m x nu ow si ki pr am tr) (Sd17Neutral.step (ab m) [[1, nu, ow, si, ki, pr, am, tr]]) := by
  have M := made x nu ow si ki pr am tr
  let so := Sd17Neutral.orderOf [nu, ow, si, ki, pr, am, tr]
  have eo : (mkO x nu ow si ki pr am tr).s = Sd17.clean so := rfl
  have GI : Sd17.good so = isOrd nu ow si ki pr am tr := good_iff nu ow si ki pr am tr hn
  have e : Sd17Neutral.step (ab m) [[1, nu, ow, si, ki, pr, am, tr]] = ((Sd17.step (ab m) (.order so)).1, (Sd17.step (ab m) (.order so)).2.value :: Sd17Neutral.ints ((Sd17.step (ab m) (.order so)).2.evs.flatMap Sd17.numbers ++ (Sd17.step (ab m) (.order so)).2.seen)) := rfl
  have es : Sd17.step (ab m) (.order so) = (if Sd17.good so = false ∨ Sd17.known (ab m) (Sd17.clean so).id = true then (ab m, Sd17.no (-1))
    else if Sd17.ORDERS ≤ (ab m).rest.length + (ab m).stops.length then (ab m, Sd17.no (-2))
    else if (ab m).auction = true then (if (Sd17.clean so).kind = 0 then Sd17.told ({ ab m with rest := (ab m).rest ++ [Sd17.clean so] }, [.rests (Sd17.clean so).id (Sd17.clean so).price (Sd17.clean so).amount]) else if 5 ≤ (Sd17.clean so).kind then Sd17.told ({ ab m with stops := (ab m).stops ++ [Sd17.clean so] }, []) else (ab m, Sd17.no (-2)))
    else if 5 ≤ (Sd17.clean so).kind then Sd17.told (Sd17.settle ({ ab m with stops := (ab m).stops ++ [Sd17.clean so] }, []))
    else Sd17.told (Sd17.settle (Sd17.come (Sd17.clean so) (ab m)))) := rfl
  rw [e, es, ← eo]
  rw [GI]
  unfold orderM
  cases io : isOrd nu ow si ki pr am tr with
  | false =>
    rw [if_pos (show (false = false ∨ _) from .inl rfl), if_pos (show (!false || _) = true from rfl)]
    exact same_ok g h0 hl (-1)
  | true =>
    have io' := (isOrd_iff _ _ _ _ _ _ _).mp io
    have hid : (mkO x nu ow si ki pr am tr).s.id = nu.toNat := by rw [M.id, if_pos io'.2.2.2.1]
    have KN := known_sim (m := m) io'.1
    rw [hid, KN]
    cases hs : (has (m.rs ++ m.ws) nu).isSome with
    | true =>
      rw [if_pos (show (true = false ∨ true = true) from .inr rfl), if_pos (show (!true || true) = true from rfl)]
      exact same_ok g h0 hl (-1)
    | false =>
      rw [if_neg (show ¬ (true = false ∨ false = true) by decide), if_neg (show ¬ ((!true || false) = true) by decide)]
      have hlen : (ab m).rest.length + (ab m).stops.length = m.rs.length + m.ws.length := by
        show (m.rs.map _).length + (m.ws.map _).length = _
        rw [List.length_map, List.length_map]
      rw [hlen]
      by_cases full : 1024 ≤ m.rs.length + m.ws.length
      · rw [if_pos full, if_pos (show Sd17.ORDERS ≤ _ from full)]
        exact same_ok g h0 hl (-2)
      · rw [if_neg full, if_neg (show ¬ Sd17.ORDERS ≤ _ from full)]
        have TK := made_take x io
        have kd : (mkO x nu ow si ki pr am tr).s.kind = ki.toNat := by rw [M.kind, if_neg (by omega)]
        by_cases wrong : (m.auc && (decide (1 ≤ ki) && decide (ki ≤ 4))) = true
        · rw [if_pos wrong]
          rw [Bool.and_eq_true, Bool.and_eq_true, decide_eq_true_iff, decide_eq_true_iff] at wrong
          rw [if_pos (show (ab m).auction = true from wrong.1), if_neg (by rw [kd]; omega), if_neg (by rw [kd]; omega)]
          exact same_ok g h0 hl (-2)
        · rw [if_neg wrong]
          rw [Bool.and_eq_true, Bool.and_eq_true, decide_eq_true_iff, decide_eq_true_iff] at wrong
          have G : Gd [mkO x nu ow si ki pr am tr] m := by
            refine ⟨?_, ?_, g.rok, g.wok⟩
            · show ((mkO x nu ow si ki pr am tr).s.id :: ids (m.rs ++ m.ws)).Nodup
              refine List.nodup_cons.mpr ⟨fun z => ?_, g.nid⟩
              obtain ⟨y, hy, ey⟩ := List.mem_map.mp z
              have : (has (m.rs ++ m.ws) nu).isSome = true := by
                unfold has
                rw [List.find?_isSome]
                exact ⟨y, hy, decide_eq_true (by rw [ey, hid]; omega)⟩
              rw [hs] at this
              cases this
            · show (x :: adrs (m.rs ++ m.ws)).Nodup
              refine List.nodup_cons.mpr ⟨fun z => ?_, g.nad⟩
              rw [adrs_app] at z
              exact (List.mem_append.mp z).elim hx.1 hx.2
          have hk : m.auc = true → ((mkO x nu ow si ki pr am tr).k = 0 ∨ (mkO x nu ow si ki pr am tr).k = 5 ∨ (mkO x nu ow si ki pr am tr).k = 6) := fun u => by
            have nk : ¬ (1 ≤ ki ∧ ki ≤ 4) := fun z => wrong ⟨u, z⟩
            show ki = 0 ∨ ki = 5 ∨ ki = 6
            omega
          obtain ⟨evs, s1, s2⟩ := take_sim G TK hk
          have G1 := take1_gd G TK hk
          have len2 : (take m (mkO x nu ow si ki pr am tr)).rs.length + (take m (mkO x nu ow si ki pr am tr)).ws.length ≤ 1024 := by
            have T1 := (take1_keeps G).2.1
            unfold take
            split
            · omega
            · have := (trigAll_ok G1).2.2.2
              omega
          have fin : ∀ s : Sd17.Book × List Sd17.Ev, s = (ab (take m (mkO x nu ow si ki pr am tr)), evs) → StepOk m (saysM (take m (mkO x nu ow si ki pr am tr))) ((Sd17.told s).1, (Sd17.told s).2.value :: Sd17Neutral.ints ((Sd17.told s).2.evs.flatMap Sd17.numbers ++ (Sd17.told s).2.seen)) := fun s e => by
            rw [e]
            exact says_ok (take_gd G1) s2 h0 len2
          by_cases u : m.auc = true
          · rw [if_pos u] at s1
            rw [if_pos (show (ab m).auction = true from u)]
            by_cases k0 : (mkO x nu ow si ki pr am tr).s.kind = 0
            · rw [if_pos k0] at s1 ⊢
              refine fin _ ?_
              rw [← s1, hid]
            · rw [if_neg k0] at s1 ⊢
              have k5 : 5 ≤ (mkO x nu ow si ki pr am tr).s.kind := by
                have := hk u
                have hkk : (mkO x nu ow si ki pr am tr).k = ki := rfl
                rw [hkk] at this
                rw [kd] at k0 ⊢
                omega
              rw [if_pos k5]
              exact fin _ s1
          · rw [if_neg u] at s1
            rw [if_neg (show ¬ (ab m).auction = true from u)]
            by_cases k5 : 5 ≤ (mkO x nu ow si ki pr am tr).s.kind
            · rw [if_pos k5] at s1 ⊢
              exact fin _ s1
            · rw [if_neg k5] at s1 ⊢
              exact fin _ s1
/-- a call, whichever -/
theorem step_sim {m : B} (g : Gd [] m) (h0 : m.ev = []) (hl : m.rs.length + m.ws.length ≤ 1024) (x : Nat) (hx : x ∉ adrs m.rs ∧ x ∉ adrs m.ws) (c : List Int) (hc : isCall c) (hn : ∀ z ∈ c, z < 2 ^ 31) : StepOk m (stepM m x c) (Sd17Neutral.step (ab m) [c]) := by
  unfold isCall at hc
  split at hc
  · exact order_sim g h0 hl x hx _ _ _ _ _ _ _ (hn _ (by simp))
  · exact cancel_sim g h0 hl _
  · exact change_sim g h0 hl x hx _ _ _
  · exact auction_sim g h0 hl _
  · exact look_sim g h0 hl
  · exact hc.elim
end SB

/-! # The mathematics: the list of calls -/
namespace SB
def Fresh (m : B) (x : Nat) : Prop := x ∉ adrs m.rs ∧ x ∉ adrs m.ws
theorem fresh_one (l : List Nat) : ∃ x, x ∉ l := by
  refine ⟨l.sum + 1, fun h => ?_⟩
  have : ∀ (l : List Nat) (y : Nat), y ∈ l → y ≤ l.sum := fun l => by
    induction l with
    | nil => intro y h; cases h
    | cons a r ih =>
      intro y h
      rw [List.sum_cons]
      rcases List.mem_cons.mp h with h | h
      · omega
      · have := ih y h
        omega
  have := this l _ h
  omega
theorem fresh_in (m : B) : ∃ x, Fresh m x := by
  obtain ⟨x, h⟩ := fresh_one (adrs m.rs ++ adrs m.ws)
  exact ⟨x, fun z => h (List.mem_append_left _ z), fun z => h (List.mem_append_right _ z)⟩
structure Cells (x : Nat) (nu ow si ki pr am tr : Int) : Prop where
  id : ((mkO x nu ow si ki pr am tr).s.id : Int) = nu
  who : ((mkO x nu ow si ki pr am tr).s.who : Int) = ow
  side : (if (mkO x nu ow si ki pr am tr).s.buy = true then 0 else 1 : Int) = si
  price : ((mkO x nu ow si ki pr am tr).s.price : Int) = if priced ki = true then pr else 0
  am : ((mkO x nu ow si ki pr am tr).s.amount : Int) = am
theorem cells (x : Nat) {nu ow si ki pr am tr : Int} (h : isOrd nu ow si ki pr am tr = true) : Cells x nu ow si ki pr am tr := by
  have M := made x nu ow si ki pr am tr
  obtain ⟨b1, b2, b3, b4, b5, b6, b7, b8, b9, b10⟩ := (isOrd_iff _ _ _ _ _ _ _).mp h
  have h1 := M.id
  have h2 := M.who
  have h3 := M.kind
  have h4 := M.price
  have h5 := M.amount
  have hb := M.buy
  rw [if_pos b4] at h1
  rw [if_neg (by omega)] at h3
  refine ⟨by rw [h1]; omega, by rw [h2]; omega, ?_, ?_, by rw [h5]; omega⟩
  · rw [hb]
    rcases b4 with e | e <;> rw [e] <;> rfl
  · rw [h4]
    by_cases p : priced ki = true
    · rw [if_pos p]
      rw [priced_iff] at p
      rw [if_neg (by omega)]
      omega
    · rw [if_neg p]
      have : ki = 1 ∨ ki = 5 := by
        rw [priced_iff] at p
        omega
      rw [if_pos (by omega)]
      rfl
/-- how many numbers a call has -/
def many (p : Int) (n : Nat) : Prop := (p = 1 ∧ n = 7) ∨ (p = 2 ∧ n = 1) ∨ (p = 3 ∧ n = 3) ∨ (p = 4 ∧ n = 1) ∨ (p = 5 ∧ n = 0)
theorem shape_many {p : Int} {n k : Nat} (h : PySd17.shape p = some (n, k)) : many p n ∧ k = 0 := by
  unfold PySd17.shape at h
  split at h
  · cases h; exact ⟨.inl ⟨by assumption, rfl⟩, rfl⟩
  · split at h
    · cases h; exact ⟨.inr (.inl ⟨by assumption, rfl⟩), rfl⟩
    · split at h
      · cases h; exact ⟨.inr (.inr (.inl ⟨by assumption, rfl⟩)), rfl⟩
      · split at h
        · cases h; exact ⟨.inr (.inr (.inr (.inl ⟨by assumption, rfl⟩))), rfl⟩
        · split at h
          · cases h; exact ⟨.inr (.inr (.inr (.inr ⟨by assumption, rfl⟩))), rfl⟩
          · cases h
theorem many_call {p : Int} {n : Nat} (h : many p n) {r : List Int} (hr : n ≤ r.length) : isCall (p :: r.take n) ∧ PySd17.whole [p :: r.take n] = [p :: r.take n] := by
  rcases h with ⟨rfl, rfl⟩ | ⟨rfl, rfl⟩ | ⟨rfl, rfl⟩ | ⟨rfl, rfl⟩ | ⟨rfl, rfl⟩
  · match r, hr with
    | a :: b :: c :: d :: e :: f :: g :: _, _ => exact ⟨trivial, rfl⟩
  · match r, hr with
    | a :: _, _ => exact ⟨trivial, rfl⟩
  · match r, hr with
    | a :: b :: c :: _, _ => exact ⟨trivial, rfl⟩
  · match r, hr with
    | a :: _, _ => exact ⟨trivial, rfl⟩
  · exact ⟨trivial, rfl⟩
theorem asked_small {c : List Int} (hc : isCall c) (h : Sd17Neutral.asked1 [c] = true) : ∀ z ∈ c, z < 2 ^ 31 := by
  have w : ∀ z, Sd17Neutral.whole32 z = true → z < 2 ^ 31 := fun z h => by
    unfold Sd17Neutral.whole32 at h
    rw [Bool.and_eq_true] at h
    exact of_decide_eq_true h.2
  unfold isCall at hc
  split at hc
  · rename_i a b c d e f g
    have h : (Sd17Neutral.whole32 a && (Sd17Neutral.whole32 b && (Sd17Neutral.whole32 c && (Sd17Neutral.whole32 d && (Sd17Neutral.whole32 e && (Sd17Neutral.whole32 f && (Sd17Neutral.whole32 g))))))) = true := h
    simp only [Bool.and_eq_true] at h
    obtain ⟨h1, h2, h3, h4, h5, h6, h7⟩ := h
    intro z hz
    simp only [List.mem_cons, List.not_mem_nil, or_false] at hz
    rcases hz with rfl | rfl | rfl | rfl | rfl | rfl | rfl | rfl
    · decide
    · exact w _ h1
    · exact w _ h2
    · exact w _ h3
    · exact w _ h4
    · exact w _ h5
    · exact w _ h6
    · exact w _ h7
  · rename_i a
    have h : Sd17Neutral.whole32 a = true := h
    intro z hz
    simp only [List.mem_cons, List.not_mem_nil, or_false] at hz
    rcases hz with rfl | rfl
    · decide
    · exact w _ h
  · rename_i a b c
    have h : (Sd17Neutral.whole32 a && (Sd17Neutral.whole32 b && (Sd17Neutral.whole32 c))) = true := h
    simp only [Bool.and_eq_true] at h
    obtain ⟨h1, h2, h3⟩ := h
    intro z hz
    simp only [List.mem_cons, List.not_mem_nil, or_false] at hz
    rcases hz with rfl | rfl | rfl | rfl
    · decide
    · exact w _ h1
    · exact w _ h2
    · exact w _ h3
  · rename_i a
    have h : Sd17Neutral.whole32 a = true := h
    intro z hz
    simp only [List.mem_cons, List.not_mem_nil, or_false] at hz
    rcases hz with rfl | rfl
    · decide
    · exact w _ h
  · intro z hz
    simp only [List.mem_cons, List.not_mem_nil, or_false] at hz
    rw [hz]
    decide
  · exact hc.elim
/-- what is left of the list, told as calls -/
structure Left (cs : List (List (List Int))) (l : List Int) : Prop where
  said : ∃ f, PyFlat.calls PySd17.shape f l = some cs
  asked : (cs.map PySd17.whole).all Sd17Neutral.asked1 = true
theorem Left.nil {cs : List (List (List Int))} (h : Left cs []) : cs = [] := by
  obtain ⟨f, e⟩ := h.said
  cases f <;> exact (Option.some.inj e).symm
structure LeftStep (cs : List (List (List Int))) (p : Int) (r : List Int) (n : Nat) (cs' : List (List (List Int))) : Prop where
  many : many p n
  len : n ≤ r.length
  eq : cs = [p :: r.take n] :: cs'
  left : Left cs' (r.drop n)
  small : ∀ z ∈ p :: r.take n, z < 2 ^ 31
theorem Left.step {cs : List (List (List Int))} {p : Int} {r : List Int} (h : Left cs (p :: r)) : ∃ n cs', LeftStep cs p r n cs' := by
  obtain ⟨⟨f, e⟩, as⟩ := h
  cases f with
  | zero => cases e
  | succ f =>
    unfold PyFlat.calls at e
    unfold PyFlat.call at e
    dsimp only at e
    cases hs : PySd17.shape p with
    | none => rw [hs] at e; cases e
    | some nk =>
      obtain ⟨n, k⟩ := nk
      obtain ⟨mn, rfl⟩ := shape_many hs
      rw [hs] at e
      dsimp only at e
      by_cases c : r.length < n
      · rw [if_pos c] at e
        cases e
      · rw [if_neg c] at e
        unfold PyFlat.rows at e
        dsimp only at e
        cases ht : PyFlat.calls PySd17.shape f (r.drop n) with
        | none => rw [ht] at e; cases e
        | some cs' =>
          rw [ht] at e
          have ec : cs = [p :: r.take n] :: cs' := (Option.some.inj e).symm
          have MC := many_call mn (r := r) (Nat.le_of_not_lt c)
          rw [ec, List.map_cons, List.all_cons, Bool.and_eq_true, MC.2] at as
          exact ⟨n, cs', mn, Nat.le_of_not_lt c, ec, ⟨⟨f, ht⟩, as.2⟩, asked_small MC.1 as.1⟩
theorem told_cons (a : List Int) (l : List (List Int)) : PyFlat.told (a :: l) = ((a.length : Int) :: a) ++ PyFlat.told l := rfl
/-- what is asked of the list, taken apart -/
structure Asked (ns : List Int) (cs : List (List (List Int))) : Prop where
  left : Left cs ns
  eq : PySd17.answers ns = PyFlat.told (PyFlat.played Sd17Neutral.step Sd17Neutral.start (cs.map PySd17.whole))
  short : (PySd17.answers ns).length ≤ 10000000
theorem asked_of {ns : List Int} (h : PySd17.answers_asked ns = true) : ∃ cs, Asked ns cs := by
  unfold PySd17.answers_asked at h
  cases hc : PyFlat.calls PySd17.shape ns.length ns with
  | none => rw [hc] at h; cases h
  | some cs =>
    rw [hc] at h
    dsimp only at h
    rw [Bool.and_eq_true, Bool.and_eq_true, Bool.and_eq_true] at h
    obtain ⟨⟨⟨_, _⟩, h1⟩, h2⟩ := h
    refine ⟨cs, ⟨⟨_, hc⟩, h1⟩, ?_, of_decide_eq_true h2⟩
    unfold PySd17.answers PySd17.calls
    rw [hc]
theorem start_is : Sd17Neutral.start = ab B.new := rfl
theorem mk_gd {m : B} (g : Gd [] m) {x : Nat} (fx : Fresh m x) {nu ow si ki pr am tr : Int} (io : isOrd nu ow si ki pr am tr = true) (hs : has (m.rs ++ m.ws) nu = none) : Gd [mkO x nu ow si ki pr am tr] m := by
  have C := cells x io
  refine ⟨?_, ?_, g.rok, g.wok⟩
  · show ((mkO x nu ow si ki pr am tr).s.id :: ids (m.rs ++ m.ws)).Nodup
    refine List.nodup_cons.mpr ⟨fun z => ?_, g.nid⟩
    obtain ⟨y, hy, ey⟩ := List.mem_map.mp z
    have hs' := List.find?_eq_none.mp hs y hy
    exact hs' (decide_eq_true (by rw [← C.id, ey]))
  · show (x :: adrs (m.rs ++ m.ws)).Nodup
    refine List.nodup_cons.mpr ⟨fun z => ?_, g.nad⟩
    rw [adrs_app] at z
    exact (List.mem_append.mp z).elim fx.1 fx.2
theorem isCall_cases {p : Int} {ns : List Int} (h : isCall (p :: ns)) : (p = 1 ∧ ∃ a b c d e f g, ns = [a, b, c, d, e, f, g]) ∨ (p = 2 ∧ ∃ a, ns = [a]) ∨ (p = 3 ∧ ∃ a b c, ns = [a, b, c]) ∨ (p = 4 ∧ ∃ a, ns = [a]) ∨ (p = 5 ∧ ns = []) := by
  generalize hl : p :: ns = l at h
  unfold isCall at h
  split at h
  · cases hl; exact .inl ⟨rfl, _, _, _, _, _, _, _, rfl⟩
  · cases hl; exact .inr (.inl ⟨rfl, _, rfl⟩)
  · cases hl; exact .inr (.inr (.inl ⟨rfl, _, _, _, rfl⟩))
  · cases hl; exact .inr (.inr (.inr (.inl ⟨rfl, _, rfl⟩)))
  · cases hl; exact .inr (.inr (.inr (.inr ⟨rfl, rfl⟩)))
  · exact h.elim
end SB

/-! # Three operations: set(a list of ints), sorted(such a set) of any size, xs != [] -/
namespace SBO
open PySem PySem.Spec PyProof.Rows L2
/-- a set that has just been made -/
abbrev newSet (w : World) : Obj := { cls := .type "set", dict := none, data := .set #[] 0 (.fresh 0 0 (!w.params.followText "set-order")) }
section
variable {w : World} {P : Program} {s : Shared} {A : Around} {E : Value → Shared → Prop}
theorem set_of_list {l : Addr} {its : Array Value} (ns : List Int) {Q : Value → Shared → Prop} (calm : A.handled = none) (isl : s.heap.IsList l its) (hint : IntsAre its.toList ns) (few : ns.length + 1 < scanBound)
    (fin : ∀ (g : Heap) (tk c : Nat), SetR w g s.heap.objs.size (fun j => decide (j ∈ ns)) c → c ≤ ns.length → (∀ b o, s.heap.get? b = some o → g.get? b = some o) → Q (.ref s.heap.objs.size) { s with heap := g, toks := tk }) :
    wpAny (model P w) A (call (Value.type "set") [Value.ref l]) Q E s := by
  have size_eq : its.size = ns.length := by
    have z := IntsAre.length hint
    rwa [Array.length_toList] at z
  have mro' := PySem.F.called_set.mro
  obtain ⟨c0, tl0, mro'⟩ := mro'
  have made' := PySem.F.called_set.made
  have sub' := PySem.F.called_set.sub
  refine wpAny_call (codeAny_of_tree (wpAny_pure ⟨Code.quiet_builtin _ (by decide +kernel), codeAny_builtin PySem.F.entry_type_call ?_⟩))
  have up := weight_type_call_type "set" [Value.ref l] []
  rw [Around.under_plain up rfl]
  have nt := PySem.F.called_set.notType
  have cc := PySem.F.called_set.canCreate
  have tc := PySem.F.typeCall_set_1 (.ref l)
  repeat any_goals first | assumption | wp_step
  refine codeAny_mono (code_set_led1 (.ref l) (E := E) (Q₁ := fun v z => v = .ref s.heap.objs.size ∧ z = { s with heap := s.heap.push (newSet w) }) ⟨rfl, rfl⟩) fun r z hr => ?_
  rcases r with e | fl
  · exact hr
  cases fl with
  | ret v =>
    obtain ⟨rfl, rfl⟩ := hr
    have got : (s.heap.push (newSet w)).get? s.heap.objs.size = some (newSet w) := Heap.get?_push_size _ rfl
    have tyS : Shared.TypeIs { s with heap := s.heap.push (newSet w) } (.ref s.heap.objs.size) "set" := ⟨_, got, rfl⟩
    have look := PySem.F.called_set.init.lookup
    have bnd := PySem.F.called_set.init.bind (.ref s.heap.objs.size)
    repeat any_goals first | assumption | wp_step
    refine codeAny_mono (codeAny_call_builtin (R := wants (fun r z => r = .none ∧ ∃ g tk c, z = { s with heap := g, toks := tk } ∧ SetR w g s.heap.objs.size (fun j => decide (j ∈ ns)) c ∧ c ≤ ns.length ∧
        (∀ b o, s.heap.get? b = some o → g.get? b = some o)) E) PySem.F.called_set.init.plain PySem.F.entry_set_init (check_set_init_1 tyS ?_)) fun r z hr => ?_
    · obtain ⟨⟨oc, od, odt, osl⟩, lo, lc, n0, ld⟩ := isl
      simp only at lc ld
      subst lc ld
      have lo' : (s.heap.push (newSet w)).get? l = some { cls := .type "list", dict := od, data := .seq its n0, slots := osl } := Heap.get?_push_of_some _ lo
      have s1 := PySem.F.sub_list_set
      have s2 := PySem.F.sub_list_frozenset
      have s3 : (Value.type "list" == Value.type "dict") = false := by decide
      have isl' : (s.heap.push (newSet w)).IsList l its := ⟨_, lo', rfl, n0, rfl⟩
      unfold Builtin.«set.__init__» Builtin.Frozenset.updateFrom noKeywords
      generalize giv : pyIter = IT
      wp_walk
      subst giv
      refine wpAny_pyIter_list isl' (wpAny_bind (wpAny_runValue ?_))
      have l_lt : l < s.heap.objs.size := Heap.lt_size lo
      have calm3 : A.in1.in1.in1.handled = none := by simp [calm]
      have psz : (s.heap.push (newSet w)).objs.size = s.heap.objs.size + 1 := Heap.size_push ..
      have l_ne : l ≠ (s.heap.push (newSet w)).objs.size := by rw [psz]; exact Nat.ne_of_lt (Nat.lt_succ_of_lt l_lt)
      have s_ni : s.heap.objs.size ∉ [(s.heap.push (newSet w)).objs.size, l] := by
        rw [psz]
        simp only [List.mem_cons, List.not_mem_nil, or_false, not_or]
        exact ⟨Nat.ne_of_lt (Nat.lt_succ_self _), Nat.ne_of_gt l_lt⟩
      have at_ : ∀ (i : Nat) (v : Value), its[i]? = some v → ∃ k t, ns[i]? = some k ∧ v = .int k t := fun i v hv => by
        have lt : i < ns.length := by rw [← size_eq]; exact (Array.getElem?_eq_some_iff.mp hv).1
        obtain ⟨t, e⟩ := PyProof.Rows.IntsAre.int_at hint i v (by rw [Array.getElem?_toList]; exact hv)
        exact ⟨ns[i], t, List.getElem?_eq_getElem lt, by rw [e, List.getD_eq_getElem?_getD, List.getElem?_eq_getElem lt] <;> rfl⟩
      refine set_update_ints ((Walks.list calm3 _ l l_ne its).toS) s.heap.objs.size s_ni ns size_eq few at_ (its.size - 0) 0 _ (by omega) (Nat.zero_le _) ⟨⟨_, Heap.get?_push_size _ rfl, rfl, rfl⟩, (isl'.push _)⟩ ?start ?stop
      case start =>
        exact ⟨0, Nat.le_refl 0, setR_new_at (Heap.get?_push_of_some _ got)⟩
      case stop =>
        intro z c mv cle R
        obtain ⟨g, gg, gd, tk, go⟩ := z
        have q1 : gg = s.gens := mv.gens
        have q2 : gd = s.drawn := mv.drawn
        have q3 : go = s.os := mv.os
        subst q1 q2 q3
        show wpAny _ _ _ _ _ _
        refine wpAny_pure ?_
        rw [size_eq] at cle
        change wpAny _ _ (ret .none) _ _ _
        refine wpAny_pure ⟨rfl, g, tk, c, rfl, R, cle, fun b o e => ?_⟩
        have blt : b < s.heap.objs.size := Heap.lt_size e
        refine mv.heap b o ?_ (Heap.get?_push_of_some _ (Heap.get?_push_of_some _ e))
        simp only [List.mem_cons, List.not_mem_nil, or_false, not_or]
        rw [psz]
        exact ⟨Nat.ne_of_lt blt, Nat.ne_of_lt (Nat.lt_succ_of_lt blt)⟩
    · rcases r with e | fl
      · exact hr
      cases fl with
      | ret r =>
        obtain ⟨rfl, g, tk, c, rfl, R, cle, kp⟩ := hr
        repeat any_goals first | assumption | wp_step
        exact fin _ _ _ R cle kp
      | _ => exact hr.elim
  | _ => exact hr.elim
theorem sorted_of_set {a : Addr} {S : Int → Bool} {n : Nat} {Q : Value → Shared → Prop} (R : SetR w s.heap a S n) (calm : A.handled = none)
    (fin : ∀ z p (vs : Array Value) (c : Nat) (ns : List Int), (∀ b o, s.heap.get? b = some o → z.heap.get? b = some o) → z.gens = s.gens → z.os = s.os → s.heap.objs.size ≤ p →
      z.heap.get? p = some (seqObj "list" vs c) → IntsAre vs.toList ns → ns.Pairwise (· < ·) → (∀ k, k ∈ ns ↔ S k = true) → ns.length = n → Q (.ref p) z) :
    wpAny (model P w) A (call (Value.builtin "sorted") [Value.ref a]) Q E s := by
  obtain ⟨ob, es, ep, tb, ho, ex, hd, good, nd, mem, bnd, fits, cnt, ris, led⟩ := R
  have n_lt : n < scanBound := by rw [← cnt]; exact bnd
  refine Calls.call_function_entry kind_sorted plain_sorted entry_sorted (args_sorted1 _) (?_ : wpAny _ _ (Builtin.«sorted» _) _ _ _)
  unfold Builtin.«sorted»
  refine wpAny_bind (m := checkCount "sorted" 1 1 _) (wpAny_pure (wpAny_bind (collect_set (A := A.in1) calm ⟨ob, ho, ex.1, hd⟩ fits bnd ris led fun z vs kp sz zg zo pm => ?_)))
  have vlen : vs.length = n := by rw [pm.length_eq, List.length_map, Array.length_toList]; exact cnt
  have vfit : vs.length ≤ sizeLine := by rw [vlen]; exact Nat.le_of_lt (Nat.lt_trans n_lt (by decide))
  have hI : IntsAre vs (vs.map SrtO.iv) := SrtO.ints_iv fun v hv => by
    obtain ⟨en, hen, eq⟩ := List.mem_map.mp (pm.mem_iff.mp hv)
    obtain ⟨k, tk, is, _⟩ := good en hen
    exact ⟨k, tk, eq ▸ is⟩
  have keys : ∀ e ∈ es.toList, SrtO.iv e.2 = keyOf e := fun e he => by
    obtain ⟨k, tk, h1, h2⟩ := good e he
    unfold keyOf
    rw [h1]
    rfl
  have pk : (vs.map SrtO.iv).Perm (es.toList.map keyOf) := by
    have q := pm.map SrtO.iv
    rw [List.map_map] at q
    rw [← List.map_congr_left (f := SrtO.iv ∘ fun x => x.2) (g := keyOf) keys]
    exact q
  refine wpAny_bind (wpAny_newList ?_ vfit)
  have hL : (z.heap.push (seqObj "list" vs.toArray 0)).get? z.heap.objs.size = some (seqObj "list" vs.toArray 0) := Heap.get?_push_size _ rfl
  refine wpAny_bind (wpAny_holding (wpAny_call_entry slot_list_sort ⟨_, hL, rfl⟩ entry_list_sort
    (SrtO.list_sort_ord SrtO.swo_int hL vfit (fun h2 => SrtO.ints_sortable hI h2) fun out h1 h2 => ⟨_, rfl, ?_⟩) (args_list_sort _)))
  obtain ⟨k1, k2, k3⟩ := SrtO.ints_out hI h1 h2
  obtain ⟨c, hc⟩ := sortedHeap_at (vs := vs) (out := out.toArray) hL
  have pn : (out.map SrtO.iv).Perm (es.toList.map keyOf) := k2.trans pk
  refine wpAny_pure ⟨_, rfl, fin _ z.heap.objs.size out.toArray c (out.map SrtO.iv) (fun b u e => ?_) zg zo sz hc (by simpa using k1) (lt_of_le_nodup _ k3 (pn.nodup_iff.mpr nd)) (fun k => by rw [pn.mem_iff, ← mem k]) ?_⟩
  · have at_ := kp b u e
    have lt := Heap.lt_size at_
    show (sortedHeap (z.heap.push (seqObj "list" vs.toArray 0)) z.heap.objs.size vs out.toArray).get? b = some u
    rw [sortedHeap_old (Nat.ne_of_lt lt) (by rw [size_push']; exact Nat.lt_succ_of_lt lt)]
    exact Heap.get?_push_of_some _ at_
  · rw [pn.length_eq, List.length_map, Array.length_toList]
    exact cnt
end
section
variable {X : Cx}
/-- set(xs), xs a list of ints, fewer than 4,000 -/
def rSetL (K : PySem.W.Frag) (w : World) : List V → Hp → VK → Prop := fun xs H Q => ∃ (l : Addr) (ns : List Int), xs = [V.ref l] ∧ SqL K H l (ns.map V.int) ∧ ns.length < 4000 ∧
  ∀ p c, H p = none → Q (.ref p) (upd H p (SetO w p (fun j => decide (j ∈ ns)) c))
theorem cr_setL (hc : X.calm = true) : CallR X (.type "set") (rSetL X.K X.w) := by
  intro pins s σ H vs us Q I rv0 ⟨l, ns, e0, hl, few, q⟩
  subst e0
  rw [Vals.ref1 rv0]
  have ⟨its, rv, pl, _⟩ := I.list hl
  refine set_of_list (P := X.prog) (w := X.w) ns (I.ok.hd hc) pl.isList (by simpa using rv.ints) (by unfold scanBound; omega) fun g tk c R cle kp => ?_
  exact ⟨.ref _, upd H s.heap.objs.size (SetO X.w s.heap.objs.size (fun j => decide (j ∈ ns)) c), I.laid (t' := tk) kp (Nat.le_refl _) (setO_new R), rfl, q _ c (I.hok.fresh (Nat.le_refl _))⟩
/-- sorted(a set of ints) -/
def rSortS (w : World) : List V → Hp → VK → Prop := fun vs H Q => ∃ (a : Addr) (S : Int → Bool) (n : Nat), vs = [V.ref a] ∧ H a = some (SetO w a S n) ∧
  ∀ (ns : List Int) (p : Addr), ns.Pairwise (· < ·) → (∀ k : Int, k ∈ ns ↔ S k = true) → H p = none → Q (.ref p) (upd H p (.lst (ns.map V.int)))
theorem cr_sortS (hc : X.calm = true) : CallR X (.builtin "sorted") (rSortS X.w) := by
  intro pins s σ H vs us Q I rv0 ⟨a, S, n, e0, ha, q⟩
  subst e0
  have R := setO_get I ha
  rw [Vals.ref1 rv0]
  have n_lt : n < scanBound := by
    obtain ⟨_, _, _, _, _, _, _, _, _, _, b, _, e, _⟩ := R
    rw [← e]
    exact b
  refine sorted_of_set R (I.ok.hd hc) fun z p out c ns kp g o hp hg hi hs hm hl => ?_
  have hlen : (ns.map V.int).length ≤ sizeLine := by rw [List.length_map, hl]; exact Nat.le_of_lt (Nat.lt_trans n_lt (by decide))
  have free : H p = none := I.hok.fresh hp
  obtain ⟨zh, zg, zd, zt, zo⟩ := z
  simp only at g o
  subst g o
  have lay : ObjOk X.prog X.w (upd H p (.lst (ns.map V.int))) zh p (.lst (ns.map V.int)) := ⟨hlen, out.toList, c, vals_of_ints hi, hg⟩
  exact ⟨.ref p, _, I.call (ch := []) (Un.laid kp hp free) (I.hok.laid kp hp lay) I.bare (fun _ z => nomatch z), rfl, q ns p hs hm free⟩
/-- xs != ys, one of them empty -/
def rNeE (K : PySem.W.Frag) : R2 := fun x y H Q => ∃ (a b : Addr) (xs : List V), x = .ref a ∧ y = .ref b ∧ SqL K H a xs ∧ SqL K H b [] ∧ Q (.bl (!xs.isEmpty)) H
theorem op_neE (hu : X.A.units < cLine) : OpR X (compareOp .NotEq) (rNeE X.K) := by
  intro pins s σ H x y v u Q I rx ry ⟨a, b, xs, ex, ey, ha, hb, q⟩
  subst ex ey
  cases rx
  cases ry
  obtain ⟨its, rv, pl, _⟩ := I.list ha
  obtain ⟨its2, rv2, pl2, _⟩ := I.list hb
  have e2 : its2 = [] := by cases rv2; rfl
  subst e2
  cases rv with
  | nil =>
    exact SeqAt.RcNeAt.lists (e := fun _ => true) pl.isList pl2.isList rfl hu (fun j h1 _ => absurd h1 (by simp)) X.prog X.w _ _ ⟨.bl _, H, I, rfl, q⟩
  | cons r0 r1 =>
    exact SeqAt.RcNeAt.lists_lengths pl.isList pl2.isList (by simp) hu X.prog X.w _ _ ⟨.bl _, H, I, rfl, q⟩
end
end SBO

/-! # The text: each def by its place, its names by slot; what the top has written -/
namespace SB
open PySem PySem.Spec PyProof.Rows L2
def topS (i : Nat) : Stmt := PySem.Challenge.pw_stallbook_s01_answers.main.body.getD i (.Pass ⟨0, 0, 0, 0⟩)
abbrev s_is_amount : Stmt := topS 11
abbrev N_is_amount : List Str := ["number"]
abbrev s_has_price : Stmt := topS 12
abbrev N_has_price : List Str := ["kind"]
abbrev s_is_stop : Stmt := topS 13
abbrev N_is_stop : List Str := ["kind"]
abbrev s_is_order : Stmt := topS 14
abbrev N_is_order : List Str := ["numbers", "number", "owner", "side", "kind", "price", "amount", "trigger"]
abbrev s_initO : Stmt := inClass (topS 15) 0
abbrev N_initO : List Str := ["self", "number", "owner", "side", "kind", "price", "amount", "trigger"]
abbrev s_accepts : Stmt := inClass (topS 15) 1
abbrev N_accepts : List Str := ["self", "price"]
abbrev s_goes_before : Stmt := inClass (topS 15) 2
abbrev N_goes_before : List Str := ["self", "other"]
abbrev s_is_triggered : Stmt := inClass (topS 15) 3
abbrev N_is_triggered : List Str := ["self", "latest"]
abbrev s_order_of : Stmt := topS 16
abbrev N_order_of : List Str := ["numbers", "number", "owner", "side", "kind", "price", "amount", "trigger"]
abbrev s_amounts_by_price : Stmt := topS 18
abbrev N_amounts_by_price : List Str := ["resting", "side", "found", "order"]
abbrev s_wished_at : Stmt := topS 19
abbrev N_wished_at : List Str := ["prices", "amounts", "found", "total", "price"]
abbrev s_distance : Stmt := topS 20
abbrev N_distance : List Str := ["price", "latest"]
abbrev s_auction_price : Stmt := topS 21
abbrev N_auction_price : List Str := ["resting", "latest", "prices", "sellers", "buyers", "best", "found", "price", "traded", "here", "order"]
abbrev s_initB : Stmt := inClass (topS 32) 0
abbrev N_initB : List Str := ["self"]
abbrev s_tell : Stmt := inClass (topS 32) 1
abbrev N_tell : List Str := ["self", "what", "first", "second", "price", "amount", "left"]
abbrev s_found_in : Stmt := inClass (topS 32) 2
abbrev N_found_in : List Str := ["self", "orders", "number", "order"]
abbrev s_resting_order : Stmt := inClass (topS 32) 3
abbrev N_resting_order : List Str := ["self", "number"]
abbrev s_any_order : Stmt := inClass (topS 32) 4
abbrev N_any_order : List Str := ["self", "number"]
abbrev s_take_out : Stmt := inClass (topS 32) 5
abbrev N_take_out : List Str := ["self", "number", "order"]
abbrev s_best : Stmt := inClass (topS 32) 6
abbrev N_best : List Str := ["self", "side", "found", "order"]
abbrev s_best_for : Stmt := inClass (topS 32) 7
abbrev N_best_for : List Str := ["self", "order", "found"]
abbrev s_rest : Stmt := inClass (topS 32) 8
abbrev N_rest : List Str := ["self", "order"]
abbrev s_end : Stmt := inClass (topS 32) 9
abbrev N_end : List Str := ["self", "order", "why"]
abbrev s_trade : Stmt := inClass (topS 32) 10
abbrev N_trade : List Str := ["self", "first", "second", "price", "amount"]
abbrev s_take_if_done : Stmt := inClass (topS 32) 11
abbrev N_take_if_done : List Str := ["self", "order"]
abbrev s_meet : Stmt := inClass (topS 32) 12
abbrev N_meet : List Str := ["self", "order", "other"]
abbrev s_trade_all : Stmt := inClass (topS 32) 13
abbrev N_trade_all : List Str := ["self", "order", "other"]
abbrev s_others_amount : Stmt := inClass (topS 32) 14
abbrev N_others_amount : List Str := ["self", "order", "found", "other"]
abbrev s_come : Stmt := inClass (topS 32) 15
abbrev N_come : List Str := ["self", "order"]
abbrev s_leave : Stmt := inClass (topS 32) 16
abbrev N_leave : List Str := ["self", "order"]
abbrev s_triggered : Stmt := inClass (topS 32) 17
abbrev N_triggered : List Str := ["self", "order", "found"]
abbrev s_trigger_all : Stmt := inClass (topS 32) 18
abbrev N_trigger_all : List Str := ["self", "found"]
abbrev s_take : Stmt := inClass (topS 32) 19
abbrev N_take : List Str := ["self", "order"]
abbrev s_cancel : Stmt := inClass (topS 32) 20
abbrev N_cancel : List Str := ["self", "order"]
abbrev s_change : Stmt := inClass (topS 32) 21
abbrev N_change : List Str := ["self", "order", "price", "amount"]
abbrev s_price_now : Stmt := inClass (topS 32) 22
abbrev N_price_now : List Str := ["self"]
abbrev s_trade_at : Stmt := inClass (topS 32) 23
abbrev N_trade_at : List Str := ["self", "price", "buyer", "seller"]
abbrev s_begin_auction : Stmt := inClass (topS 32) 24
abbrev N_begin_auction : List Str := ["self"]
abbrev s_end_auction : Stmt := inClass (topS 32) 25
abbrev N_end_auction : List Str := ["self", "price"]
abbrev s_best_told : Stmt := inClass (topS 32) 26
abbrev N_best_told : List Str := ["self", "side", "found", "some", "order"]
abbrev s_looked : Stmt := inClass (topS 32) 27
abbrev N_looked : List Str := ["self", "price"]
abbrev s_events_told : Stmt := topS 38
abbrev N_events_told : List Str := ["book", "found", "event"]
abbrev s_order_told : Stmt := topS 39
abbrev N_order_told : List Str := ["book", "numbers"]
abbrev s_cancel_told : Stmt := topS 40
abbrev N_cancel_told : List Str := ["book", "number", "order"]
abbrev s_change_told : Stmt := topS 41
abbrev N_change_told : List Str := ["book", "number", "price", "amount", "order"]
abbrev s_auction_told : Stmt := topS 42
abbrev N_auction_told : List Str := ["book", "on"]
abbrev s_answered : Stmt := topS 43
abbrev N_answered : List Str := ["book", "what", "numbers"]
abbrev s_answers : Stmt := topS 44
abbrev N_answers : List Str := ["calls", "book", "found", "at", "what", "end", "told"]
/-- where each stands -/
structure Ad where
  cO : Addr
  cB : Addr
  nums : Addr
  f_is_amount : Addr
  fd_is_amount : FuncData
  f_has_price : Addr
  fd_has_price : FuncData
  f_is_stop : Addr
  fd_is_stop : FuncData
  f_is_order : Addr
  fd_is_order : FuncData
  f_initO : Addr
  fd_initO : FuncData
  f_accepts : Addr
  fd_accepts : FuncData
  f_goes_before : Addr
  fd_goes_before : FuncData
  f_is_triggered : Addr
  fd_is_triggered : FuncData
  f_order_of : Addr
  fd_order_of : FuncData
  f_amounts_by_price : Addr
  fd_amounts_by_price : FuncData
  f_wished_at : Addr
  fd_wished_at : FuncData
  f_distance : Addr
  fd_distance : FuncData
  f_auction_price : Addr
  fd_auction_price : FuncData
  f_initB : Addr
  fd_initB : FuncData
  f_tell : Addr
  fd_tell : FuncData
  f_found_in : Addr
  fd_found_in : FuncData
  f_resting_order : Addr
  fd_resting_order : FuncData
  f_any_order : Addr
  fd_any_order : FuncData
  f_take_out : Addr
  fd_take_out : FuncData
  f_best : Addr
  fd_best : FuncData
  f_best_for : Addr
  fd_best_for : FuncData
  f_rest : Addr
  fd_rest : FuncData
  f_end : Addr
  fd_end : FuncData
  f_trade : Addr
  fd_trade : FuncData
  f_take_if_done : Addr
  fd_take_if_done : FuncData
  f_meet : Addr
  fd_meet : FuncData
  f_trade_all : Addr
  fd_trade_all : FuncData
  f_others_amount : Addr
  fd_others_amount : FuncData
  f_come : Addr
  fd_come : FuncData
  f_leave : Addr
  fd_leave : FuncData
  f_triggered : Addr
  fd_triggered : FuncData
  f_trigger_all : Addr
  fd_trigger_all : FuncData
  f_take : Addr
  fd_take : FuncData
  f_cancel : Addr
  fd_cancel : FuncData
  f_change : Addr
  fd_change : FuncData
  f_price_now : Addr
  fd_price_now : FuncData
  f_trade_at : Addr
  fd_trade_at : FuncData
  f_begin_auction : Addr
  fd_begin_auction : FuncData
  f_end_auction : Addr
  fd_end_auction : FuncData
  f_best_told : Addr
  fd_best_told : FuncData
  f_looked : Addr
  fd_looked : FuncData
  f_events_told : Addr
  fd_events_told : FuncData
  f_order_told : Addr
  fd_order_told : FuncData
  f_cancel_told : Addr
  fd_cancel_told : FuncData
  f_change_told : Addr
  fd_change_told : FuncData
  f_auction_told : Addr
  fd_auction_told : FuncData
  f_answered : Addr
  fd_answered : FuncData
  f_answers : Addr
  fd_answers : FuncData
structure All (K : PySem.W.Frag) (mg : Str → Option Value) (A : Ad) : Prop where
  c_Order : Cls K A.cO
  c_Book : Cls K A.cB
  n_number : NoAttr K A.cO "number"
  n_owner : NoAttr K A.cO "owner"
  n_side : NoAttr K A.cO "side"
  n_kind : NoAttr K A.cO "kind"
  n_price : NoAttr K A.cO "price"
  n_amount : NoAttr K A.cO "amount"
  n_trigger : NoAttr K A.cO "trigger"
  n_resting : NoAttr K A.cB "resting"
  n_waiting : NoAttr K A.cB "waiting"
  n_latest : NoAttr K A.cB "latest"
  n_auction : NoAttr K A.cB "auction"
  n_events : NoAttr K A.cB "events"
  mk_Order : Mk K A.cO A.f_initO
  mk_Book : Mk K A.cB A.f_initB
  g_Order : mg "Order" = some (.ref A.cO)
  g_Book : mg "Book" = some (.ref A.cB)
  F_is_amount : Fun K "is_amount" "is_amount" s_is_amount A.f_is_amount A.fd_is_amount
  b_is_amount : Binds K A.fd_is_amount ["number"] []
  g_is_amount : mg "is_amount" = some (.ref A.f_is_amount)
  k_is_amount : PySem.W.keepIn K (.ref A.f_is_amount) = true
  F_has_price : Fun K "has_price" "has_price" s_has_price A.f_has_price A.fd_has_price
  b_has_price : Binds K A.fd_has_price ["kind"] []
  g_has_price : mg "has_price" = some (.ref A.f_has_price)
  k_has_price : PySem.W.keepIn K (.ref A.f_has_price) = true
  F_is_stop : Fun K "is_stop" "is_stop" s_is_stop A.f_is_stop A.fd_is_stop
  b_is_stop : Binds K A.fd_is_stop ["kind"] []
  g_is_stop : mg "is_stop" = some (.ref A.f_is_stop)
  k_is_stop : PySem.W.keepIn K (.ref A.f_is_stop) = true
  F_is_order : Fun K "is_order" "is_order" s_is_order A.f_is_order A.fd_is_order
  b_is_order : Binds K A.fd_is_order ["numbers"] []
  g_is_order : mg "is_order" = some (.ref A.f_is_order)
  k_is_order : PySem.W.keepIn K (.ref A.f_is_order) = true
  F_initO : Fun K "__init__" "Order.__init__" s_initO A.f_initO A.fd_initO
  b_initO : Binds K A.fd_initO ["self", "number", "owner", "side", "kind", "price", "amount", "trigger"] []
  F_accepts : Fun K "accepts" "Order.accepts" s_accepts A.f_accepts A.fd_accepts
  b_accepts : Binds K A.fd_accepts ["self", "price"] []
  m_accepts : Meth K A.cO "accepts" A.f_accepts
  F_goes_before : Fun K "goes_before" "Order.goes_before" s_goes_before A.f_goes_before A.fd_goes_before
  b_goes_before : Binds K A.fd_goes_before ["self", "other"] []
  m_goes_before : Meth K A.cO "goes_before" A.f_goes_before
  F_is_triggered : Fun K "is_triggered" "Order.is_triggered" s_is_triggered A.f_is_triggered A.fd_is_triggered
  b_is_triggered : Binds K A.fd_is_triggered ["self", "latest"] []
  m_is_triggered : Meth K A.cO "is_triggered" A.f_is_triggered
  F_order_of : Fun K "order_of" "order_of" s_order_of A.f_order_of A.fd_order_of
  b_order_of : Binds K A.fd_order_of ["numbers"] []
  g_order_of : mg "order_of" = some (.ref A.f_order_of)
  k_order_of : PySem.W.keepIn K (.ref A.f_order_of) = true
  F_amounts_by_price : Fun K "amounts_by_price" "amounts_by_price" s_amounts_by_price A.f_amounts_by_price A.fd_amounts_by_price
  b_amounts_by_price : Binds K A.fd_amounts_by_price ["resting", "side"] []
  g_amounts_by_price : mg "amounts_by_price" = some (.ref A.f_amounts_by_price)
  k_amounts_by_price : PySem.W.keepIn K (.ref A.f_amounts_by_price) = true
  F_wished_at : Fun K "wished_at" "wished_at" s_wished_at A.f_wished_at A.fd_wished_at
  b_wished_at : Binds K A.fd_wished_at ["prices", "amounts"] []
  g_wished_at : mg "wished_at" = some (.ref A.f_wished_at)
  k_wished_at : PySem.W.keepIn K (.ref A.f_wished_at) = true
  F_distance : Fun K "distance" "distance" s_distance A.f_distance A.fd_distance
  b_distance : Binds K A.fd_distance ["price", "latest"] []
  g_distance : mg "distance" = some (.ref A.f_distance)
  k_distance : PySem.W.keepIn K (.ref A.f_distance) = true
  F_auction_price : Fun K "auction_price" "auction_price" s_auction_price A.f_auction_price A.fd_auction_price
  b_auction_price : Binds K A.fd_auction_price ["resting", "latest"] []
  g_auction_price : mg "auction_price" = some (.ref A.f_auction_price)
  k_auction_price : PySem.W.keepIn K (.ref A.f_auction_price) = true
  F_initB : Fun K "__init__" "Book.__init__" s_initB A.f_initB A.fd_initB
  b_initB : Binds K A.fd_initB ["self"] []
  F_tell : Fun K "tell" "Book.tell" s_tell A.f_tell A.fd_tell
  b_tell : Binds K A.fd_tell ["self", "what", "first", "second", "price", "amount", "left"] []
  m_tell : Meth K A.cB "tell" A.f_tell
  F_found_in : Fun K "found_in" "Book.found_in" s_found_in A.f_found_in A.fd_found_in
  b_found_in : Binds K A.fd_found_in ["self", "orders", "number"] []
  m_found_in : Meth K A.cB "found_in" A.f_found_in
  F_resting_order : Fun K "resting_order" "Book.resting_order" s_resting_order A.f_resting_order A.fd_resting_order
  b_resting_order : Binds K A.fd_resting_order ["self", "number"] []
  m_resting_order : Meth K A.cB "resting_order" A.f_resting_order
  F_any_order : Fun K "any_order" "Book.any_order" s_any_order A.f_any_order A.fd_any_order
  b_any_order : Binds K A.fd_any_order ["self", "number"] []
  m_any_order : Meth K A.cB "any_order" A.f_any_order
  F_take_out : Fun K "take_out" "Book.take_out" s_take_out A.f_take_out A.fd_take_out
  b_take_out : Binds K A.fd_take_out ["self", "number"] []
  m_take_out : Meth K A.cB "take_out" A.f_take_out
  F_best : Fun K "best" "Book.best" s_best A.f_best A.fd_best
  b_best : Binds K A.fd_best ["self", "side"] []
  m_best : Meth K A.cB "best" A.f_best
  F_best_for : Fun K "best_for" "Book.best_for" s_best_for A.f_best_for A.fd_best_for
  b_best_for : Binds K A.fd_best_for ["self", "order"] []
  m_best_for : Meth K A.cB "best_for" A.f_best_for
  F_rest : Fun K "rest" "Book.rest" s_rest A.f_rest A.fd_rest
  b_rest : Binds K A.fd_rest ["self", "order"] []
  m_rest : Meth K A.cB "rest" A.f_rest
  F_end : Fun K "end" "Book.end" s_end A.f_end A.fd_end
  b_end : Binds K A.fd_end ["self", "order", "why"] []
  m_end : Meth K A.cB "end" A.f_end
  F_trade : Fun K "trade" "Book.trade" s_trade A.f_trade A.fd_trade
  b_trade : Binds K A.fd_trade ["self", "first", "second", "price"] []
  m_trade : Meth K A.cB "trade" A.f_trade
  F_take_if_done : Fun K "take_if_done" "Book.take_if_done" s_take_if_done A.f_take_if_done A.fd_take_if_done
  b_take_if_done : Binds K A.fd_take_if_done ["self", "order"] []
  m_take_if_done : Meth K A.cB "take_if_done" A.f_take_if_done
  F_meet : Fun K "meet" "Book.meet" s_meet A.f_meet A.fd_meet
  b_meet : Binds K A.fd_meet ["self", "order", "other"] []
  m_meet : Meth K A.cB "meet" A.f_meet
  F_trade_all : Fun K "trade_all" "Book.trade_all" s_trade_all A.f_trade_all A.fd_trade_all
  b_trade_all : Binds K A.fd_trade_all ["self", "order"] []
  m_trade_all : Meth K A.cB "trade_all" A.f_trade_all
  F_others_amount : Fun K "others_amount" "Book.others_amount" s_others_amount A.f_others_amount A.fd_others_amount
  b_others_amount : Binds K A.fd_others_amount ["self", "order"] []
  m_others_amount : Meth K A.cB "others_amount" A.f_others_amount
  F_come : Fun K "come" "Book.come" s_come A.f_come A.fd_come
  b_come : Binds K A.fd_come ["self", "order"] []
  m_come : Meth K A.cB "come" A.f_come
  F_leave : Fun K "leave" "Book.leave" s_leave A.f_leave A.fd_leave
  b_leave : Binds K A.fd_leave ["self", "order"] []
  m_leave : Meth K A.cB "leave" A.f_leave
  F_triggered : Fun K "triggered" "Book.triggered" s_triggered A.f_triggered A.fd_triggered
  b_triggered : Binds K A.fd_triggered ["self"] []
  m_triggered : Meth K A.cB "triggered" A.f_triggered
  F_trigger_all : Fun K "trigger_all" "Book.trigger_all" s_trigger_all A.f_trigger_all A.fd_trigger_all
  b_trigger_all : Binds K A.fd_trigger_all ["self"] []
  m_trigger_all : Meth K A.cB "trigger_all" A.f_trigger_all
  F_take : Fun K "take" "Book.take" s_take A.f_take A.fd_take
  b_take : Binds K A.fd_take ["self", "order"] []
  m_take : Meth K A.cB "take" A.f_take
  F_cancel : Fun K "cancel" "Book.cancel" s_cancel A.f_cancel A.fd_cancel
  b_cancel : Binds K A.fd_cancel ["self", "order"] []
  m_cancel : Meth K A.cB "cancel" A.f_cancel
  F_change : Fun K "change" "Book.change" s_change A.f_change A.fd_change
  b_change : Binds K A.fd_change ["self", "order", "price", "amount"] []
  m_change : Meth K A.cB "change" A.f_change
  F_price_now : Fun K "price_now" "Book.price_now" s_price_now A.f_price_now A.fd_price_now
  b_price_now : Binds K A.fd_price_now ["self"] []
  m_price_now : Meth K A.cB "price_now" A.f_price_now
  F_trade_at : Fun K "trade_at" "Book.trade_at" s_trade_at A.f_trade_at A.fd_trade_at
  b_trade_at : Binds K A.fd_trade_at ["self", "price"] []
  m_trade_at : Meth K A.cB "trade_at" A.f_trade_at
  F_begin_auction : Fun K "begin_auction" "Book.begin_auction" s_begin_auction A.f_begin_auction A.fd_begin_auction
  b_begin_auction : Binds K A.fd_begin_auction ["self"] []
  m_begin_auction : Meth K A.cB "begin_auction" A.f_begin_auction
  F_end_auction : Fun K "end_auction" "Book.end_auction" s_end_auction A.f_end_auction A.fd_end_auction
  b_end_auction : Binds K A.fd_end_auction ["self"] []
  m_end_auction : Meth K A.cB "end_auction" A.f_end_auction
  F_best_told : Fun K "best_told" "Book.best_told" s_best_told A.f_best_told A.fd_best_told
  b_best_told : Binds K A.fd_best_told ["self", "side"] []
  m_best_told : Meth K A.cB "best_told" A.f_best_told
  F_looked : Fun K "looked" "Book.looked" s_looked A.f_looked A.fd_looked
  b_looked : Binds K A.fd_looked ["self"] []
  m_looked : Meth K A.cB "looked" A.f_looked
  F_events_told : Fun K "events_told" "events_told" s_events_told A.f_events_told A.fd_events_told
  b_events_told : Binds K A.fd_events_told ["book"] []
  g_events_told : mg "events_told" = some (.ref A.f_events_told)
  k_events_told : PySem.W.keepIn K (.ref A.f_events_told) = true
  F_order_told : Fun K "order_told" "order_told" s_order_told A.f_order_told A.fd_order_told
  b_order_told : Binds K A.fd_order_told ["book", "numbers"] []
  g_order_told : mg "order_told" = some (.ref A.f_order_told)
  k_order_told : PySem.W.keepIn K (.ref A.f_order_told) = true
  F_cancel_told : Fun K "cancel_told" "cancel_told" s_cancel_told A.f_cancel_told A.fd_cancel_told
  b_cancel_told : Binds K A.fd_cancel_told ["book", "number"] []
  g_cancel_told : mg "cancel_told" = some (.ref A.f_cancel_told)
  k_cancel_told : PySem.W.keepIn K (.ref A.f_cancel_told) = true
  F_change_told : Fun K "change_told" "change_told" s_change_told A.f_change_told A.fd_change_told
  b_change_told : Binds K A.fd_change_told ["book", "number", "price", "amount"] []
  g_change_told : mg "change_told" = some (.ref A.f_change_told)
  k_change_told : PySem.W.keepIn K (.ref A.f_change_told) = true
  F_auction_told : Fun K "auction_told" "auction_told" s_auction_told A.f_auction_told A.fd_auction_told
  b_auction_told : Binds K A.fd_auction_told ["book", "on"] []
  g_auction_told : mg "auction_told" = some (.ref A.f_auction_told)
  k_auction_told : PySem.W.keepIn K (.ref A.f_auction_told) = true
  F_answered : Fun K "answered" "answered" s_answered A.f_answered A.fd_answered
  b_answered : Binds K A.fd_answered ["book", "what", "numbers"] []
  g_answered : mg "answered" = some (.ref A.f_answered)
  k_answered : PySem.W.keepIn K (.ref A.f_answered) = true
  F_answers : Fun K "answers" "answers" s_answers A.f_answers A.fd_answers
  b_answers : Binds K A.fd_answers ["calls"] []
  g_answers : mg "answers" = some (.ref A.f_answers)
  k_answers : PySem.W.keepIn K (.ref A.f_answers) = true
  g_BUYS : ∃ t, mg "BUYS" = some (.int (0) t)
  g_SELLS : ∃ t, mg "SELLS" = some (.int (1) t)
  g_LIMIT : ∃ t, mg "LIMIT" = some (.int (0) t)
  g_MARKET : ∃ t, mg "MARKET" = some (.int (1) t)
  g_ALL_AT_ONCE : ∃ t, mg "ALL_AT_ONCE" = some (.int (3) t)
  g_ONLY_REST : ∃ t, mg "ONLY_REST" = some (.int (4) t)
  g_STOP : ∃ t, mg "STOP" = some (.int (5) t)
  g_STOP_LIMIT : ∃ t, mg "STOP_LIMIT" = some (.int (6) t)
  g_MOST : ∃ t, mg "MOST" = some (.int (1000000) t)
  g_MOST_OWNER : ∃ t, mg "MOST_OWNER" = some (.int (255) t)
  g_TRADED : ∃ t, mg "TRADED" = some (.int (1) t)
  g_RESTS : ∃ t, mg "RESTS" = some (.int (2) t)
  g_ENDED : ∃ t, mg "ENDED" = some (.int (3) t)
  g_TRIGGERED : ∃ t, mg "TRIGGERED" = some (.int (4) t)
  g_CANCELLED : ∃ t, mg "CANCELLED" = some (.int (1) t)
  g_NOT_TRADED : ∃ t, mg "NOT_TRADED" = some (.int (2) t)
  g_NOT_ALL : ∃ t, mg "NOT_ALL" = some (.int (3) t)
  g_WOULD_TRADE : ∃ t, mg "WOULD_TRADE" = some (.int (4) t)
  g_OWN : ∃ t, mg "OWN" = some (.int (5) t)
  g_WRONG : ∃ t, mg "WRONG" = some (.int (-1) t)
  g_NOT_NOW : ∃ t, mg "NOT_NOW" = some (.int (-2) t)
  g_MOST_ORDERS : ∃ t, mg "MOST_ORDERS" = some (.int (1024) t)
  g_NUMBERS : mg "NUMBERS" = some (.ref A.nums)
  t_NUMBERS : ∀ H : Hp, SqT K H A.nums ([.int 0, .int 7, .int 1, .int 3, .int 1, .int 0])
  b_len : mg "len" = none
  b_min : mg "min" = none
  b_abs : mg "abs" = none
  b_sum : mg "sum" = none
  b_sorted : mg "sorted" = none
  b_set : mg "set" = none
theorem sc_is_amount : FnScope N_is_amount ["number"] (defScope s_is_amount) := ⟨rfl, rfl, rfl, by decide +kernel, rfl, by decide +kernel, by decide +kernel⟩
theorem sc_has_price : FnScope N_has_price ["kind"] (defScope s_has_price) := ⟨rfl, rfl, rfl, by decide +kernel, rfl, by decide +kernel, by decide +kernel⟩
theorem sc_is_stop : FnScope N_is_stop ["kind"] (defScope s_is_stop) := ⟨rfl, rfl, rfl, by decide +kernel, rfl, by decide +kernel, by decide +kernel⟩
theorem sc_is_order : FnScope N_is_order ["numbers"] (defScope s_is_order) := ⟨rfl, rfl, rfl, by decide +kernel, rfl, by decide +kernel, by decide +kernel⟩
theorem sc_initO : FnScope N_initO ["self", "number", "owner", "side", "kind", "price", "amount", "trigger"] (defScope s_initO) := ⟨rfl, rfl, rfl, by decide +kernel, rfl, by decide +kernel, by decide +kernel⟩
theorem sc_accepts : FnScope N_accepts ["self", "price"] (defScope s_accepts) := ⟨rfl, rfl, rfl, by decide +kernel, rfl, by decide +kernel, by decide +kernel⟩
theorem sc_goes_before : FnScope N_goes_before ["self", "other"] (defScope s_goes_before) := ⟨rfl, rfl, rfl, by decide +kernel, rfl, by decide +kernel, by decide +kernel⟩
theorem sc_is_triggered : FnScope N_is_triggered ["self", "latest"] (defScope s_is_triggered) := ⟨rfl, rfl, rfl, by decide +kernel, rfl, by decide +kernel, by decide +kernel⟩
theorem sc_order_of : FnScope N_order_of ["numbers"] (defScope s_order_of) := ⟨rfl, rfl, rfl, by decide +kernel, rfl, by decide +kernel, by decide +kernel⟩
theorem sc_amounts_by_price : FnScope N_amounts_by_price ["resting", "side"] (defScope s_amounts_by_price) := ⟨rfl, rfl, rfl, by decide +kernel, rfl, by decide +kernel, by decide +kernel⟩
theorem sc_wished_at : FnScope N_wished_at ["prices", "amounts"] (defScope s_wished_at) := ⟨rfl, rfl, rfl, by decide +kernel, rfl, by decide +kernel, by decide +kernel⟩
theorem sc_distance : FnScope N_distance ["price", "latest"] (defScope s_distance) := ⟨rfl, rfl, rfl, by decide +kernel, rfl, by decide +kernel, by decide +kernel⟩
theorem sc_auction_price : FnScope N_auction_price ["resting", "latest"] (defScope s_auction_price) := ⟨rfl, rfl, rfl, by decide +kernel, rfl, by decide +kernel, by decide +kernel⟩
theorem sc_initB : FnScope N_initB ["self"] (defScope s_initB) := ⟨rfl, rfl, rfl, by decide +kernel, rfl, by decide +kernel, by decide +kernel⟩
theorem sc_tell : FnScope N_tell ["self", "what", "first", "second", "price", "amount", "left"] (defScope s_tell) := ⟨rfl, rfl, rfl, by decide +kernel, rfl, by decide +kernel, by decide +kernel⟩
theorem sc_found_in : FnScope N_found_in ["self", "orders", "number"] (defScope s_found_in) := ⟨rfl, rfl, rfl, by decide +kernel, rfl, by decide +kernel, by decide +kernel⟩
theorem sc_resting_order : FnScope N_resting_order ["self", "number"] (defScope s_resting_order) := ⟨rfl, rfl, rfl, by decide +kernel, rfl, by decide +kernel, by decide +kernel⟩
theorem sc_any_order : FnScope N_any_order ["self", "number"] (defScope s_any_order) := ⟨rfl, rfl, rfl, by decide +kernel, rfl, by decide +kernel, by decide +kernel⟩
theorem sc_take_out : FnScope N_take_out ["self", "number"] (defScope s_take_out) := ⟨rfl, rfl, rfl, by decide +kernel, rfl, by decide +kernel, by decide +kernel⟩
theorem sc_best : FnScope N_best ["self", "side"] (defScope s_best) := ⟨rfl, rfl, rfl, by decide +kernel, rfl, by decide +kernel, by decide +kernel⟩
theorem sc_best_for : FnScope N_best_for ["self", "order"] (defScope s_best_for) := ⟨rfl, rfl, rfl, by decide +kernel, rfl, by decide +kernel, by decide +kernel⟩
theorem sc_rest : FnScope N_rest ["self", "order"] (defScope s_rest) := ⟨rfl, rfl, rfl, by decide +kernel, rfl, by decide +kernel, by decide +kernel⟩
theorem sc_end : FnScope N_end ["self", "order", "why"] (defScope s_end) := ⟨rfl, rfl, rfl, by decide +kernel, rfl, by decide +kernel, by decide +kernel⟩
theorem sc_trade : FnScope N_trade ["self", "first", "second", "price"] (defScope s_trade) := ⟨rfl, rfl, rfl, by decide +kernel, rfl, by decide +kernel, by decide +kernel⟩
theorem sc_take_if_done : FnScope N_take_if_done ["self", "order"] (defScope s_take_if_done) := ⟨rfl, rfl, rfl, by decide +kernel, rfl, by decide +kernel, by decide +kernel⟩
theorem sc_meet : FnScope N_meet ["self", "order", "other"] (defScope s_meet) := ⟨rfl, rfl, rfl, by decide +kernel, rfl, by decide +kernel, by decide +kernel⟩
theorem sc_trade_all : FnScope N_trade_all ["self", "order"] (defScope s_trade_all) := ⟨rfl, rfl, rfl, by decide +kernel, rfl, by decide +kernel, by decide +kernel⟩
theorem sc_others_amount : FnScope N_others_amount ["self", "order"] (defScope s_others_amount) := ⟨rfl, rfl, rfl, by decide +kernel, rfl, by decide +kernel, by decide +kernel⟩
theorem sc_come : FnScope N_come ["self", "order"] (defScope s_come) := ⟨rfl, rfl, rfl, by decide +kernel, rfl, by decide +kernel, by decide +kernel⟩
theorem sc_leave : FnScope N_leave ["self", "order"] (defScope s_leave) := ⟨rfl, rfl, rfl, by decide +kernel, rfl, by decide +kernel, by decide +kernel⟩
theorem sc_triggered : FnScope N_triggered ["self"] (defScope s_triggered) := ⟨rfl, rfl, rfl, by decide +kernel, rfl, by decide +kernel, by decide +kernel⟩
theorem sc_trigger_all : FnScope N_trigger_all ["self"] (defScope s_trigger_all) := ⟨rfl, rfl, rfl, by decide +kernel, rfl, by decide +kernel, by decide +kernel⟩
theorem sc_take : FnScope N_take ["self", "order"] (defScope s_take) := ⟨rfl, rfl, rfl, by decide +kernel, rfl, by decide +kernel, by decide +kernel⟩
theorem sc_cancel : FnScope N_cancel ["self", "order"] (defScope s_cancel) := ⟨rfl, rfl, rfl, by decide +kernel, rfl, by decide +kernel, by decide +kernel⟩
theorem sc_change : FnScope N_change ["self", "order", "price", "amount"] (defScope s_change) := ⟨rfl, rfl, rfl, by decide +kernel, rfl, by decide +kernel, by decide +kernel⟩
theorem sc_price_now : FnScope N_price_now ["self"] (defScope s_price_now) := ⟨rfl, rfl, rfl, by decide +kernel, rfl, by decide +kernel, by decide +kernel⟩
theorem sc_trade_at : FnScope N_trade_at ["self", "price"] (defScope s_trade_at) := ⟨rfl, rfl, rfl, by decide +kernel, rfl, by decide +kernel, by decide +kernel⟩
theorem sc_begin_auction : FnScope N_begin_auction ["self"] (defScope s_begin_auction) := ⟨rfl, rfl, rfl, by decide +kernel, rfl, by decide +kernel, by decide +kernel⟩
theorem sc_end_auction : FnScope N_end_auction ["self"] (defScope s_end_auction) := ⟨rfl, rfl, rfl, by decide +kernel, rfl, by decide +kernel, by decide +kernel⟩
theorem sc_best_told : FnScope N_best_told ["self", "side"] (defScope s_best_told) := ⟨rfl, rfl, rfl, by decide +kernel, rfl, by decide +kernel, by decide +kernel⟩
theorem sc_looked : FnScope N_looked ["self"] (defScope s_looked) := ⟨rfl, rfl, rfl, by decide +kernel, rfl, by decide +kernel, by decide +kernel⟩
theorem sc_events_told : FnScope N_events_told ["book"] (defScope s_events_told) := ⟨rfl, rfl, rfl, by decide +kernel, rfl, by decide +kernel, by decide +kernel⟩
theorem sc_order_told : FnScope N_order_told ["book", "numbers"] (defScope s_order_told) := ⟨rfl, rfl, rfl, by decide +kernel, rfl, by decide +kernel, by decide +kernel⟩
theorem sc_cancel_told : FnScope N_cancel_told ["book", "number"] (defScope s_cancel_told) := ⟨rfl, rfl, rfl, by decide +kernel, rfl, by decide +kernel, by decide +kernel⟩
theorem sc_change_told : FnScope N_change_told ["book", "number", "price", "amount"] (defScope s_change_told) := ⟨rfl, rfl, rfl, by decide +kernel, rfl, by decide +kernel, by decide +kernel⟩
theorem sc_auction_told : FnScope N_auction_told ["book", "on"] (defScope s_auction_told) := ⟨rfl, rfl, rfl, by decide +kernel, rfl, by decide +kernel, by decide +kernel⟩
theorem sc_answered : FnScope N_answered ["book", "what", "numbers"] (defScope s_answered) := ⟨rfl, rfl, rfl, by decide +kernel, rfl, by decide +kernel, by decide +kernel⟩
theorem sc_answers : FnScope N_answers ["calls"] (defScope s_answers) := ⟨rfl, rfl, rfl, by decide +kernel, rfl, by decide +kernel, by decide +kernel⟩
end SB

/-! # How the book lies in the heap; what a step leaves of it -/
namespace SB
open PySem PySem.Spec PyProof.Rows L2
abbrev nV (n : Nat) : V := .int (n : Int)
abbrev rf (o : O) : V := .ref o.adr
def sI (b : Bool) : Int := if b = true then 0 else 1
def oL (nu ow si ki pr am tr : Int) : List (Str × V) := [("number", .int nu), ("owner", .int ow), ("side", .int si), ("kind", .int ki), ("price", .int pr), ("amount", .int am), ("trigger", .int tr)]
def oF (o : O) : List (Str × V) := oL o.s.id o.s.who (sI o.s.buy) o.k o.s.price o.s.amount o.t
def bF (lr lw : Addr) (lat : Int) (auc : Bool) (le : Addr) : List (Str × V) := [("resting", .ref lr), ("waiting", .ref lw), ("latest", .int lat), ("auction", .bl auc), ("events", .ref le)]
theorem lkh {k : Str} {v : V} {r : List (Str × V)} : List.lookup k ((k, v) :: r) = some v := by
  have e : (k == k) = true := beq_self_eq_true k
  simp only [List.lookup, e]
theorem lkp {k g : Str} {v w : V} {r : List (Str × V)} (h : (k == g) = false) (n : List.lookup k r = some w) : List.lookup k ((g, v) :: r) = some w := by
  simp only [List.lookup, h]
  exact n
theorem lkn {k g : Str} {v : V} {r : List (Str × V)} (h : (k == g) = false) (n : List.lookup k r = none) : List.lookup k ((g, v) :: r) = none := by
  simp only [List.lookup, h]
  exact n
theorem pth {f : Str} {v x : V} {r : List (Str × V)} : putF f v ((f, x) :: r) = (f, v) :: r := if_pos rfl
theorem ptp {f g : Str} {v x : V} {r q : List (Str × V)} (h : ¬ g = f) (n : putF f v r = q) : putF f v ((g, x) :: r) = (g, x) :: q := by
  rw [← n]
  exact if_neg h
section
variable (nu ow si ki pr am tr z : Int)
theorem ol_number : (oL nu ow si ki pr am tr).lookup ("number" : Str) = some (.int nu) := lkh
theorem ol_owner : (oL nu ow si ki pr am tr).lookup ("owner" : Str) = some (.int ow) := lkp (by decide +kernel) lkh
theorem ol_side : (oL nu ow si ki pr am tr).lookup ("side" : Str) = some (.int si) := lkp (by decide +kernel) (lkp (by decide +kernel) lkh)
theorem ol_kind : (oL nu ow si ki pr am tr).lookup ("kind" : Str) = some (.int ki) := lkp (by decide +kernel) (lkp (by decide +kernel) (lkp (by decide +kernel) lkh))
theorem ol_price : (oL nu ow si ki pr am tr).lookup ("price" : Str) = some (.int pr) := lkp (by decide +kernel) (lkp (by decide +kernel) (lkp (by decide +kernel) (lkp (by decide +kernel) lkh)))
theorem ol_amount : (oL nu ow si ki pr am tr).lookup ("amount" : Str) = some (.int am) := lkp (by decide +kernel) (lkp (by decide +kernel) (lkp (by decide +kernel) (lkp (by decide +kernel) (lkp (by decide +kernel) lkh))))
theorem ol_trigger : (oL nu ow si ki pr am tr).lookup ("trigger" : Str) = some (.int tr) := lkp (by decide +kernel) (lkp (by decide +kernel) (lkp (by decide +kernel) (lkp (by decide +kernel) (lkp (by decide +kernel) (lkp (by decide +kernel) lkh)))))
def noO (m : Str) : Bool := !(m == "number") && !(m == "owner") && !(m == "side") && !(m == "kind") && !(m == "price") && !(m == "amount") && !(m == "trigger")
theorem ol_none {m : Str} (h : noO m = true) : (oL nu ow si ki pr am tr).lookup m = none := by
  unfold noO at h
  simp only [Bool.and_eq_true, Bool.not_eq_true'] at h
  obtain ⟨⟨⟨⟨⟨⟨h1, h2⟩, h3⟩, h4⟩, h5⟩, h6⟩, h7⟩ := h
  exact lkn h1 (lkn h2 (lkn h3 (lkn h4 (lkn h5 (lkn h6 (lkn h7 rfl))))))
theorem ol_put : putF "amount" (.int z) (oL nu ow si ki pr am tr) = oL nu ow si ki pr z tr :=
  ptp (by decide +kernel) (ptp (by decide +kernel) (ptp (by decide +kernel) (ptp (by decide +kernel) (ptp (by decide +kernel) pth))))
end
section
variable (lr lw : Addr) (lat : Int) (auc : Bool) (le : Addr) (x : Addr)
theorem bf_resting : (bF lr lw lat auc le).lookup ("resting" : Str) = some (.ref lr) := lkh
theorem bf_waiting : (bF lr lw lat auc le).lookup ("waiting" : Str) = some (.ref lw) := lkp (by decide +kernel) lkh
theorem bf_latest : (bF lr lw lat auc le).lookup ("latest" : Str) = some (.int lat) := lkp (by decide +kernel) (lkp (by decide +kernel) lkh)
theorem bf_auction : (bF lr lw lat auc le).lookup ("auction" : Str) = some (.bl auc) := lkp (by decide +kernel) (lkp (by decide +kernel) (lkp (by decide +kernel) lkh))
theorem bf_events : (bF lr lw lat auc le).lookup ("events" : Str) = some (.ref le) := lkp (by decide +kernel) (lkp (by decide +kernel) (lkp (by decide +kernel) (lkp (by decide +kernel) lkh)))
def noB (m : Str) : Bool := !(m == "resting") && !(m == "waiting") && !(m == "latest") && !(m == "auction") && !(m == "events")
theorem bf_none {m : Str} (h : noB m = true) : (bF lr lw lat auc le).lookup m = none := by
  unfold noB at h
  simp only [Bool.and_eq_true, Bool.not_eq_true'] at h
  obtain ⟨⟨⟨⟨h1, h2⟩, h3⟩, h4⟩, h5⟩ := h
  exact lkn h1 (lkn h2 (lkn h3 (lkn h4 (lkn h5 rfl))))
theorem bp_resting : putF "resting" (.ref x) (bF lr lw lat auc le) = bF x lw lat auc le := pth
theorem bp_waiting : putF "waiting" (.ref x) (bF lr lw lat auc le) = bF lr x lat auc le := ptp (by decide +kernel) pth
theorem bp_latest (z : Int) : putF "latest" (.int z) (bF lr lw lat auc le) = bF lr lw z auc le := ptp (by decide +kernel) (ptp (by decide +kernel) pth)
theorem bp_auction (z : Bool) : putF "auction" (.bl z) (bF lr lw lat auc le) = bF lr lw lat z le := ptp (by decide +kernel) (ptp (by decide +kernel) (ptp (by decide +kernel) pth))
theorem bp_events : putF "events" (.ref x) (bF lr lw lat auc le) = bF lr lw lat auc x := ptp (by decide +kernel) (ptp (by decide +kernel) (ptp (by decide +kernel) (ptp (by decide +kernel) pth)))
end
/-- an order lies at its address -/
def OrdAt (A : Ad) (H : Hp) (o : O) : Prop := ∃ dx, H o.adr = some (.ins A.cO dx (oF o))
structure Ls where
  lr : Addr
  lw : Addr
  le : Addr
def evV (e : Sd17.Ev) : List V := (Sd17.numbers e).map nV
def EvAt (H : Hp) (es : List Addr) (vs : List Sd17.Ev) : Prop := es.length = vs.length ∧ ∀ (i : Nat) (a : Addr), es[i]? = some a → ∃ e, vs[i]? = some e ∧ H a = some (.lst (evV e))
structure BookAt (A : Ad) (H : Hp) (b : Addr) (L : Ls) (m : B) : Prop where
  at_ : ∃ dx, H b = some (.ins A.cB dx (bF L.lr L.lw m.lat m.auc L.le))
  r : H L.lr = some (.lst (m.rs.map rf))
  w : H L.lw = some (.lst (m.ws.map rf))
  e : ∃ es : List Addr, H L.le = some (.lst (es.map V.ref)) ∧ EvAt H es m.ev
  os : ∀ o, (o ∈ m.rs ∨ o ∈ m.ws) → OrdAt A H o
  n1 : L.lr ≠ L.lw
  n2 : L.lr ≠ L.le
  n3 : L.lw ≠ L.le
/-- what is the book's own -/
def Ft (b : Addr) (L : Ls) (m : B) (x : Addr) : Prop := x = b ∨ x = L.lr ∨ x = L.lw ∨ x = L.le ∨ x ∈ adrs m.rs ∨ x ∈ adrs m.ws
/-- a step that turns nothing but X -/
structure Post (A : Ad) (b : Addr) (X : Addr → Prop) (H : Hp) (L : Ls) (m : B) (H' : Hp) (L' : Ls) (m' : B) : Prop where
  at_ : BookAt A H' b L' m'
  fr : ∀ x o, H x = some o → ¬ X x → H' x = some o
  sub : ∀ x, Ft b L' m' x → Ft b L m x ∨ X x ∨ H x = none
  live : ∀ x, H' x = none → H x = none
section
variable {A : Ad} {b : Addr} {X Y Z : Addr → Prop} {H H1 H2 : Hp} {L L1 L2 : Ls} {m m1 m2 : B}
theorem Post.trans (p : Post A b X H L m H1 L1 m1) (q : Post A b Y H1 L1 m1 H2 L2 m2) (hX : ∀ x, X x → Z x ∨ H x = none) (hY : ∀ x, Y x → Z x ∨ H x = none) : Post A b Z H L m H2 L2 m2 := by
  refine ⟨q.at_, fun x o e n => ?_, fun x h => ?_, fun x h => p.live x (q.live x h)⟩
  · have nX : ¬ X x := fun z => (hX x z).elim n fun z => by rw [e] at z; cases z
    exact q.fr x o (p.fr x o e nX) fun z => (hY x z).elim n fun z => by rw [e] at z; cases z
  · rcases q.sub x h with h | h | h
    · rcases p.sub x h with h | h | h
      · exact .inl h
      · exact .inr (hX x h)
      · exact .inr (.inr h)
    · exact .inr (hY x h)
    · exact .inr (.inr (p.live x h))
theorem Post.mono (p : Post A b X H L m H1 L1 m1) (h : ∀ x, X x → Z x ∨ H x = none) : Post A b Z H L m H1 L1 m1 :=
  ⟨p.at_, fun x o e n => p.fr x o e fun z => (h x z).elim n (fun z => by rw [e] at z; cases z), fun x z => (p.sub x z).elim .inl fun z => z.elim (fun z => .inr (h x z)) fun z => .inr (.inr z), p.live⟩
theorem Post.refl (h : BookAt A H b L m) : Post A b X H L m H L m := ⟨h, fun _ _ e _ => e, fun _ z => .inl z, fun _ z => z⟩
/-- what is the book's behind the step was its own, was turned, or is new -/
theorem Post.ft (p : Post A b X H L m H1 L1 m1) {x : Addr} {o : HO} (e : H x = some o) (n : ¬ Ft b L m x) (n' : ¬ X x) : ¬ Ft b L1 m1 x := fun z => by
  rcases p.sub x z with z | z | z
  · exact n z
  · exact n' z
  · rw [e] at z
    cases z
theorem Post.ord (p : Post A b X H L m H1 L1 m1) {o : O} (h : OrdAt A H o) (n : ¬ X o.adr) : OrdAt A H1 o := by
  obtain ⟨dx, h⟩ := h
  exact ⟨dx, p.fr _ _ h n⟩
theorem Post.same (s : Same H H1) (h : BookAt A H b L m) (l : ∀ x, H1 x = none → H x = none) (h1 : BookAt A H1 b L m) : Post A b X H L m H1 L m := ⟨h1, fun x o e _ => s x o e, fun _ z => .inl z, l⟩
theorem bf_of_ol {nu ow si ki pr am tr : Int} {lr lw : Addr} {lat : Int} {auc : Bool} {le C C' dx dx' : Addr} (h : HO.ins C dx (oL nu ow si ki pr am tr) = HO.ins C' dx' (bF lr lw lat auc le)) : False := by
  have e : oL nu ow si ki pr am tr = bF lr lw lat auc le := (HO.ins.inj h).2.2
  have e2 := (Prod.mk.inj (List.cons.inj e).1).1
  exact absurd e2 (by decide +kernel)
/-- what is the book's own stands -/
theorem BookAt.alloc (h : BookAt A H b L m) {x : Addr} (f : Ft b L m x) : H x ≠ none := by
  rcases f with rfl | rfl | rfl | rfl | f | f
  · obtain ⟨dx, e⟩ := h.at_
    rw [e]; exact fun z => nomatch z
  · rw [h.r]; exact fun z => nomatch z
  · rw [h.w]; exact fun z => nomatch z
  · obtain ⟨es, e, _⟩ := h.e
    rw [e]; exact fun z => nomatch z
  · obtain ⟨o, ho, rfl⟩ := List.mem_map.mp f
    obtain ⟨dx, e⟩ := h.os o (.inl ho)
    show H o.adr ≠ none
    rw [e]; exact fun z => nomatch z
  · obtain ⟨o, ho, rfl⟩ := List.mem_map.mp f
    obtain ⟨dx, e⟩ := h.os o (.inr ho)
    show H o.adr ≠ none
    rw [e]; exact fun z => nomatch z
theorem BookAt.new (h : BookAt A H b L m) {x : Addr} (e : H x = none) : ¬ Ft b L m x := fun f => h.alloc f e
/-- an order outside the lists is outside the book -/
theorem BookAt.apart (h : BookAt A H b L m) {o : O} (ho : OrdAt A H o) (n1 : o.adr ∉ adrs m.rs) (n2 : o.adr ∉ adrs m.ws) : ¬ Ft b L m o.adr := by
  obtain ⟨dx, e⟩ := ho
  rintro (z | z | z | z | z | z)
  · obtain ⟨dx', e'⟩ := h.at_
    rw [z, e'] at e
    exact bf_of_ol (Option.some.inj e).symm
  · rw [z, h.r] at e
    cases e
  · rw [z, h.w] at e
    cases e
  · obtain ⟨es, e', _⟩ := h.e
    rw [z, e'] at e
    cases e
  · exact n1 z
  · exact n2 z
theorem OrdAt.upd {o : O} (h : OrdAt A H o) {x : Addr} {u : HO} (n : o.adr ≠ x) : OrdAt A (upd H x u) o := by
  obtain ⟨dx, e⟩ := h
  exact ⟨dx, by rw [upd_ne n]; exact e⟩
theorem OrdAt.same {o : O} (h : OrdAt A H o) (s : Same H H1) : OrdAt A H1 o := by
  obtain ⟨dx, e⟩ := h
  exact ⟨dx, s _ _ e⟩
/-- an order's address is no list's -/
theorem OrdAt.ne_lst {o : O} (h : OrdAt A H o) {x : Addr} {xs : List V} (e : H x = some (.lst xs)) : o.adr ≠ x := by
  obtain ⟨dx, e'⟩ := h
  exact ne_of e' e fun z => nomatch z
theorem OrdAt.ne_new {o : O} (h : OrdAt A H o) {x : Addr} (e : H x = none) : o.adr ≠ x := by
  obtain ⟨dx, e'⟩ := h
  exact ne_of_none e' e
theorem OrdAt.ne_book {o : O} (h : OrdAt A H o) (hb : BookAt A H b L m) : o.adr ≠ b := by
  obtain ⟨dx, e⟩ := h
  obtain ⟨dx', e'⟩ := hb.at_
  exact ne_of e e' fun z => bf_of_ol z
theorem EvAt.same {es : List Addr} {vs : List Sd17.Ev} (h : EvAt H es vs) (k : ∀ a o, a ∈ es → H a = some o → H1 a = some o) : EvAt H1 es vs :=
  ⟨h.1, fun i a e => by
    obtain ⟨v, e1, e2⟩ := h.2 i a e
    exact ⟨v, e1, k a _ (List.mem_of_getElem? e) e2⟩⟩
theorem EvAt.lst {es : List Addr} {vs : List Sd17.Ev} (h : EvAt H es vs) {a : Addr} (ha : a ∈ es) : ∃ v, v ∈ vs ∧ H a = some (.lst (evV v)) := by
  obtain ⟨i, hi⟩ := List.mem_iff_getElem?.mp ha
  obtain ⟨v, e1, e2⟩ := h.2 i a hi
  exact ⟨v, List.mem_of_getElem? e1, e2⟩
/-- an event's list is none of lists of addresses -/
theorem ev_ne {a x : Addr} {v : Sd17.Ev} {xs : List Addr} (h : H a = some (.lst (evV v))) (h' : H x = some (.lst (xs.map V.ref))) : a ≠ x := by
  refine ne_of h h' fun z => ?_
  have e := HO.lst.inj z
  cases v <;> cases xs <;> cases e
theorem rf_map (l : List O) : l.map rf = (adrs l).map V.ref := by
  unfold adrs
  rw [List.map_map]
  rfl
/-- what may be turned, so that the book stands as it was: nothing of its own -/
theorem BookAt.keep (h : BookAt A H b L m) (k : ∀ x o, H x = some o → (Ft b L m x ∨ ∃ v : Sd17.Ev, o = .lst (evV v)) → H1 x = some o) : BookAt A H1 b L m := by
  obtain ⟨dx, e⟩ := h.at_
  obtain ⟨es, e1, e2⟩ := h.e
  refine ⟨⟨dx, k _ _ e (.inl (.inl rfl))⟩, k _ _ h.r (.inl (.inr (.inl rfl))), k _ _ h.w (.inl (.inr (.inr (.inl rfl)))), ⟨es, k _ _ e1 (.inl (.inr (.inr (.inr (.inl rfl))))), e2.same fun a o ha e => ?_⟩, fun o ho => ?_, h.n1, h.n2, h.n3⟩
  · obtain ⟨v, _, e3⟩ := e2.lst ha
    refine k _ _ e (.inr ⟨v, ?_⟩)
    rw [e] at e3
    exact Option.some.inj e3
  · obtain ⟨dx, e⟩ := h.os o ho
    refine ⟨dx, k _ _ e (.inl ?_)⟩
    rcases ho with ho | ho
    · exact .inr (.inr (.inr (.inr (.inl (List.mem_map.mpr ⟨o, ho, rfl⟩)))))
    · exact .inr (.inr (.inr (.inr (.inr (List.mem_map.mpr ⟨o, ho, rfl⟩)))))
theorem BookAt.same (h : BookAt A H b L m) (s : Same H H1) : BookAt A H1 b L m := h.keep fun x o e _ => s x o e
end
/-! ## fields and methods, read -/
section
variable {K : PySem.W.Frag} {mg : Str → Option Value} {A : Ad} {H : Hp} {o : O} {b : Addr} {L : Ls} {m : B}
theorem rdO (T : All K mg A) (h : OrdAt A H o) {f : Str} {v : V} (n : NoAttr K A.cO f) (l : (oF o).lookup f = some v) {R : V → Prop} (q : R v) :
    ∃ a C dx fs v', rf o = .ref a ∧ H a = some (.ins C dx fs) ∧ Cls K C ∧ NoAttr K C f ∧ fs.lookup f = some v' ∧ R v' := by
  obtain ⟨dx, e⟩ := h
  exact ⟨o.adr, A.cO, dx, _, v, rfl, e, T.c_Order, n, l, q⟩
theorem rdB (T : All K mg A) (h : BookAt A H b L m) {f : Str} {v : V} (n : NoAttr K A.cB f) (l : (bF L.lr L.lw m.lat m.auc L.le).lookup f = some v) {R : V → Prop} (q : R v) :
    ∃ a C dx fs v', V.ref b = .ref a ∧ H a = some (.ins C dx fs) ∧ Cls K C ∧ NoAttr K C f ∧ fs.lookup f = some v' ∧ R v' := by
  obtain ⟨dx, e⟩ := h.at_
  exact ⟨b, A.cB, dx, _, v, rfl, e, T.c_Book, n, l, q⟩
theorem mtO {R : Prop} (h : OrdAt A H o) {f : Str} (n : noO f = true) (q : R) : ∃ a dx fs, rf o = .ref a ∧ H a = some (.ins A.cO dx fs) ∧ fs.lookup f = none ∧ R := by
  obtain ⟨dx, e⟩ := h
  exact ⟨o.adr, dx, _, rfl, e, ol_none _ _ _ _ _ _ _ n, q⟩
theorem mtB {R : Prop} (h : BookAt A H b L m) {f : Str} (n : noB f = true) (q : R) : ∃ a dx fs, V.ref b = .ref a ∧ H a = some (.ins A.cB dx fs) ∧ fs.lookup f = none ∧ R := by
  obtain ⟨dx, e⟩ := h.at_
  exact ⟨b, dx, _, rfl, e, bf_none _ _ _ _ _ n, q⟩
/-- self.f = v -/
theorem wrB (T : All K mg A) (h : BookAt A H b L m) {f : Str} (n : NoAttr K A.cB f) {R : Addr → Addr → Addr → List (Str × V) → Prop} (q : ∀ dx, H b = some (.ins A.cB dx (bF L.lr L.lw m.lat m.auc L.le)) → R b A.cB dx (bF L.lr L.lw m.lat m.auc L.le)) :
    ∃ a C dx fs, V.ref b = .ref a ∧ H a = some (.ins C dx fs) ∧ Cls K C ∧ NoAttr K C f ∧ fs.length < 1000 ∧ R a C dx fs := by
  obtain ⟨dx, e⟩ := h.at_
  exact ⟨b, A.cB, dx, _, rfl, e, T.c_Book, n, (by show 5 < 1000; decide), q dx e⟩
end
/-! ## small words -/
theorem dI (a b : Int) : decide (V.int a = V.int b) = decide (a = b) := by
  by_cases h : a = b
  · subst h
    rw [decide_eq_true rfl, decide_eq_true rfl]
  · rw [decide_eq_false h, decide_eq_false fun z => h (V.int.inj z)]
theorem dBl (a b : Bool) : decide (V.bl a = V.bl b) = (a == b) := by
  cases a <;> cases b <;> decide
theorem ifT {c : Bool} {A B : Prop} (hc : c = true) (h : A) : if c = true then A else B := by
  rw [if_pos hc]
  exact h
theorem ifF {c : Bool} {A B : Prop} (hc : c = false) (h : B) : if c = true then A else B := by
  rw [hc, if_neg Bool.false_ne_true]
  exact h
theorem ifb {c : Bool} {A B : Prop} (h1 : c = true → A) (h2 : c = false → B) : if c = true then A else B := by
  cases c with
  | true => exact iteT (h1 rfl)
  | false => exact iteF (h2 rfl)
theorem qb {Q : VK} {H : Hp} {a b : Bool} (q : Q (.bl b) H) (e : a = b) : Q (.bl a) H := by rw [e]; exact q
theorem qi {Q : VK} {H : Hp} {a b : Int} (q : Q (.int b) H) (e : a = b) : Q (.int a) H := by rw [e]; exact q
theorem not_t {c : Bool} (h : (!c) = true) : c = false := by cases c; rfl; cases h
theorem not_f {c : Bool} (h : (!c) = false) : c = true := by cases c; cases h; rfl
/-- None, or an order -/
def optV : Option O → V
  | none => .non
  | some o => rf o
theorem opt_non (o : Option O) : decide (optV o = V.non) = o.isNone := by
  cases o with
  | none => rfl
  | some o => exact decide_eq_false fun z => nomatch z
theorem sI_eq (a b : Bool) : decide (sI a = sI b) = (a == b) := by cases a <;> cases b <;> rfl
theorem sI_zero (a : Bool) : decide (sI a = 0) = a := by cases a <;> rfl
theorem sI_not (a : Bool) : 1 - sI a = sI (!a) := by cases a <;> rfl
theorem nat_eq (a b : Nat) : decide ((a : Int) = (b : Int)) = decide (a = b) := by
  by_cases h : a = b
  · subst h; simp
  · rw [decide_eq_false h, decide_eq_false (by omega)]
theorem nat_le (a b : Nat) : decide ((a : Int) ≤ (b : Int)) = decide (a ≤ b) := by
  by_cases h : a ≤ b
  · rw [decide_eq_true h, decide_eq_true (by omega)]
  · rw [decide_eq_false h, decide_eq_false (by omega)]
theorem nat_lt (a b : Nat) : decide ((a : Int) < (b : Int)) = decide (a < b) := by
  by_cases h : a < b
  · rw [decide_eq_true h, decide_eq_true (by omega)]
  · rw [decide_eq_false h, decide_eq_false (by omega)]
theorem ol_new (nu ow si ki pr am tr : Int) : putF "trigger" (.int tr) (putF "amount" (.int am) (putF "price" (.int pr) (putF "kind" (.int ki) (putF "side" (.int si) (putF "owner" (.int ow) (putF "number" (.int nu) [])))))) = oL nu ow si ki pr am tr := by
  have e2 : ∀ x v : V, putF "owner" v [("number", x)] = [(("number" : Str), x), ("owner", v)] := fun x v => ptp (by decide +kernel) rfl
  have e3 : ∀ x y v : V, putF "side" v [("number", x), ("owner", y)] = [(("number" : Str), x), ("owner", y), ("side", v)] := fun x y v => ptp (by decide +kernel) (ptp (by decide +kernel) rfl)
  have e4 : ∀ x y z v : V, putF "kind" v [("number", x), ("owner", y), ("side", z)] = [(("number" : Str), x), ("owner", y), ("side", z), ("kind", v)] := fun x y z v => ptp (by decide +kernel) (ptp (by decide +kernel) (ptp (by decide +kernel) rfl))
  have e5 : ∀ x y z a v : V, putF "price" v [("number", x), ("owner", y), ("side", z), ("kind", a)] = [(("number" : Str), x), ("owner", y), ("side", z), ("kind", a), ("price", v)] := fun x y z a v => ptp (by decide +kernel) (ptp (by decide +kernel) (ptp (by decide +kernel) (ptp (by decide +kernel) rfl)))
  have e6 : ∀ x y z a b v : V, putF "amount" v [("number", x), ("owner", y), ("side", z), ("kind", a), ("price", b)] = [(("number" : Str), x), ("owner", y), ("side", z), ("kind", a), ("price", b), ("amount", v)] := fun x y z a b v => ptp (by decide +kernel) (ptp (by decide +kernel) (ptp (by decide +kernel) (ptp (by decide +kernel) (ptp (by decide +kernel) rfl))))
  have e7 : ∀ x y z a b c v : V, putF "trigger" v [("number", x), ("owner", y), ("side", z), ("kind", a), ("price", b), ("amount", c)] = [(("number" : Str), x), ("owner", y), ("side", z), ("kind", a), ("price", b), ("amount", c), ("trigger", v)] := fun x y z a b c v => ptp (by decide +kernel) (ptp (by decide +kernel) (ptp (by decide +kernel) (ptp (by decide +kernel) (ptp (by decide +kernel) (ptp (by decide +kernel) rfl)))))
  rw [show putF "number" (V.int nu) [] = [(("number" : Str), V.int nu)] from rfl, e2, e3, e4, e5, e6, e7]
  rfl
theorem bf_new (lr lw : Addr) (lat : Int) (auc : Bool) (le : Addr) : putF "events" (.ref le) (putF "auction" (.bl auc) (putF "latest" (.int lat) (putF "waiting" (.ref lw) (putF "resting" (.ref lr) [])))) = bF lr lw lat auc le := by
  have e2 : ∀ x v : V, putF "waiting" v [("resting", x)] = [(("resting" : Str), x), ("waiting", v)] := fun x v => ptp (by decide +kernel) rfl
  have e3 : ∀ x y v : V, putF "latest" v [("resting", x), ("waiting", y)] = [(("resting" : Str), x), ("waiting", y), ("latest", v)] := fun x y v => ptp (by decide +kernel) (ptp (by decide +kernel) rfl)
  have e4 : ∀ x y z v : V, putF "auction" v [("resting", x), ("waiting", y), ("latest", z)] = [(("resting" : Str), x), ("waiting", y), ("latest", z), ("auction", v)] := fun x y z v => ptp (by decide +kernel) (ptp (by decide +kernel) (ptp (by decide +kernel) rfl))
  have e5 : ∀ x y z a v : V, putF "events" v [("resting", x), ("waiting", y), ("latest", z), ("auction", a)] = [(("resting" : Str), x), ("waiting", y), ("latest", z), ("auction", a), ("events", v)] := fun x y z a v => ptp (by decide +kernel) (ptp (by decide +kernel) (ptp (by decide +kernel) (ptp (by decide +kernel) rfl)))
  rw [show putF "resting" (V.ref lr) [] = [(("resting" : Str), V.ref lr)] from rfl, e2, e3, e4, e5]
  rfl
end SB

/-! # What each store makes of the book -/
namespace SB
open PySem PySem.Spec PyProof.Rows L2
section
variable {A : Ad} {b : Addr} {H H1 : Hp} {L : Ls} {m : B} {o : O}
theorem upd_live {H : Hp} {a : Addr} {u : HO} {x : Addr} (h : upd H a u x = none) : H x = none := by
  by_cases e : x = a
  · rw [e, upd_same] at h
    cases h
  · rw [upd_ne e] at h
    exact h
theorem upd_same_of {H : Hp} {a : Addr} {u : HO} (h : H a = none) : Same H (upd H a u) := fun x o e => by rw [upd_ne (ne_of_none e h)]; exact e
theorem BookAt.ne_r (h : BookAt A H b L m) : b ≠ L.lr := by
  obtain ⟨dx, e⟩ := h.at_
  exact ne_of e h.r fun z => nomatch z
theorem BookAt.ne_w (h : BookAt A H b L m) : b ≠ L.lw := by
  obtain ⟨dx, e⟩ := h.at_
  exact ne_of e h.w fun z => nomatch z
theorem BookAt.ne_e (h : BookAt A H b L m) : b ≠ L.le := by
  obtain ⟨dx, e⟩ := h.at_
  obtain ⟨es, e', _⟩ := h.e
  exact ne_of e e' fun z => nomatch z
theorem BookAt.ord_r (h : BookAt A H b L m) (ho : OrdAt A H o) : o.adr ≠ L.lr := ho.ne_lst h.r
theorem BookAt.ord_w (h : BookAt A H b L m) (ho : OrdAt A H o) : o.adr ≠ L.lw := ho.ne_lst h.w
theorem BookAt.ord_e (h : BookAt A H b L m) (ho : OrdAt A H o) : o.adr ≠ L.le := by
  obtain ⟨es, e', _⟩ := h.e
  exact ho.ne_lst e'
theorem BookAt.ev_r (h : BookAt A H b L m) {a : Addr} {v : Sd17.Ev} (e : H a = some (.lst (evV v))) : a ≠ L.lr := by
  have r := h.r
  rw [rf_map] at r
  exact ev_ne e r
theorem BookAt.ev_w (h : BookAt A H b L m) {a : Addr} {v : Sd17.Ev} (e : H a = some (.lst (evV v))) : a ≠ L.lw := by
  have r := h.w
  rw [rf_map] at r
  exact ev_ne e r
theorem BookAt.ev_e (h : BookAt A H b L m) {a : Addr} {v : Sd17.Ev} (e : H a = some (.lst (evV v))) : a ≠ L.le := by
  obtain ⟨es, e', _⟩ := h.e
  exact ev_ne e e'
/-- an event more -/
theorem tell_post (h : BookAt A H b L m) {es : List Addr} (he : H L.le = some (.lst (es.map V.ref))) (hv : EvAt H es m.ev) {p : Addr} (hp : H p = none) (e : Sd17.Ev) :
    Post A b (fun x => x = L.le) H L m (upd (upd H p (.lst (evV e))) L.le (.lst (es.map V.ref ++ [.ref p]))) L (m.tell e) := by
  have npe : p ≠ L.le := fun z => by rw [z, he] at hp; cases hp
  have fr : ∀ x o, H x = some o → x ≠ L.le → (upd (upd H p (.lst (evV e))) L.le (.lst (es.map V.ref ++ [.ref p]))) x = some o := fun x o q n => by
    rw [upd_ne n, upd_ne (ne_of_none q hp)]
    exact q
  obtain ⟨dx, e0⟩ := h.at_
  refine ⟨⟨⟨dx, fr _ _ e0 h.ne_e⟩, fr _ _ h.r h.n2, fr _ _ h.w h.n3, ⟨es ++ [p], ?_, ?_, fun i a q => ?_⟩, fun o ho => ?_, h.n1, h.n2, h.n3⟩, fr, fun x z => .inl z, fun x z => upd_live (upd_live z)⟩
  · rw [upd_same, List.map_append]
    rfl
  · rw [List.length_append, hv.1]
    exact (List.length_append (as := m.ev) (bs := [e])).symm
  · by_cases lt : i < es.length
    · rw [List.getElem?_append_left lt] at q
      obtain ⟨v, e1, e2⟩ := hv.2 i a q
      refine ⟨v, ?_, fr _ _ e2 (h.ev_e e2)⟩
      show (m.ev ++ [e])[i]? = _
      rw [List.getElem?_append_left (by rw [← hv.1]; exact lt)]
      exact e1
    · rw [List.getElem?_append_right (Nat.le_of_not_lt lt)] at q
      have i0 : i - es.length = 0 := by
        cases z : i - es.length with
        | zero => rfl
        | succ k => rw [z] at q; cases q
      rw [i0] at q
      cases q
      refine ⟨e, ?_, ?_⟩
      · show (m.ev ++ [e])[i]? = _
        rw [List.getElem?_append_right (by rw [← hv.1]; exact Nat.le_of_not_lt lt), ← hv.1, i0]
        rfl
      · rw [upd_ne npe, upd_same]
  · have q := h.os o ho
    obtain ⟨dx', q'⟩ := q
    exact ⟨dx', fr _ _ q' (h.ord_e ⟨dx', q'⟩)⟩
theorem out_post {H4 : Hp} (h : BookAt A H b L m) (n : Nat) {D1 D2 : Addr} (n1 : H D1 = none) (n2 : H D2 = none) (nD : D1 ≠ D2) (fr : ∀ x o, H x = some o → x ≠ b → H4 x = some o)
    (at_ : ∃ dx, H4 b = some (.ins A.cB dx (bF D1 D2 m.lat m.auc L.le))) (r : H4 D1 = some (.lst ((out n m.rs).map rf))) (w : H4 D2 = some (.lst ((out n m.ws).map rf))) (live : ∀ x, H4 x = none → H x = none) :
    Post A b (fun x => x = b) H L m H4 ⟨D1, D2, L.le⟩ (m.takeOut n) := by
  obtain ⟨es, e1, e2⟩ := h.e
  have nb : ∀ x, H x = none → x ≠ b := fun x z q => by
    obtain ⟨dx, e⟩ := h.at_
    rw [q, e] at z
    cases z
  refine ⟨⟨at_, r, w, ⟨es, fr _ _ e1 (Ne.symm h.ne_e), e2.same fun a o ha q => fr _ _ q fun z => ?_⟩, fun o ho => ?_, nD, fun z => ?_, fun z => ?_⟩, fr, fun x z => ?_, live⟩
  · obtain ⟨v, _, e3⟩ := e2.lst ha
    obtain ⟨dx, e⟩ := h.at_
    rw [z, e] at e3
    cases e3
  · have q : o ∈ m.rs ∨ o ∈ m.ws := ho.imp (fun z => (mem_out.mp z).1) (fun z => (mem_out.mp z).1)
    obtain ⟨dx, e⟩ := h.os o q
    exact ⟨dx, fr _ _ e (OrdAt.ne_book ⟨dx, e⟩ h)⟩
  · have z : D1 = L.le := z
    rw [z, e1] at n1
    cases n1
  · have z : D2 = L.le := z
    rw [z, e1] at n2
    cases n2
  · rcases z with z | z | z | z | z | z
    · exact .inl (.inl z)
    · have z : x = D1 := z
      exact .inr (.inr (by rw [z]; exact n1))
    · have z : x = D2 := z
      exact .inr (.inr (by rw [z]; exact n2))
    · exact .inl (.inr (.inr (.inr (.inl z))))
    · exact .inl (.inr (.inr (.inr (.inr (.inl (((out_sub n m.rs).map _).subset z))))))
    · exact .inl (.inr (.inr (.inr (.inr (.inr (((out_sub n m.ws).map _).subset z))))))
theorem oF_same {o r : O} {C dx dx' : Addr} {H : Hp} (h1 : H o.adr = some (.ins C dx (oF o))) (h2 : H r.adr = some (.ins C dx' (oF r))) (e : o.adr = r.adr) (n : Nat) : oF (o.amt n) = oF (r.amt n) := by
  rw [e, h2] at h1
  have q : oF r = oF o := (HO.ins.inj (Option.some.inj h1)).2.2
  have e1 := ol_number r.s.id r.s.who (sI r.s.buy) r.k r.s.price r.s.amount r.t
  unfold oF oL at q
  have qs := List.cons.inj q
  have q1 : (r.s.id : Int) = o.s.id := V.int.inj (Prod.mk.inj qs.1).2
  have qs := List.cons.inj qs.2
  have q2 : (r.s.who : Int) = o.s.who := V.int.inj (Prod.mk.inj qs.1).2
  have qs := List.cons.inj qs.2
  have q3 : sI r.s.buy = sI o.s.buy := V.int.inj (Prod.mk.inj qs.1).2
  have qs := List.cons.inj qs.2
  have q4 : r.k = o.k := V.int.inj (Prod.mk.inj qs.1).2
  have qs := List.cons.inj qs.2
  have q5 : (r.s.price : Int) = o.s.price := V.int.inj (Prod.mk.inj qs.1).2
  have qs := List.cons.inj qs.2
  have qs := List.cons.inj qs.2
  have q7 : r.t = o.t := V.int.inj (Prod.mk.inj qs.1).2
  show oL o.s.id o.s.who (sI o.s.buy) o.k o.s.price n o.t = oL r.s.id r.s.who (sI r.s.buy) r.k r.s.price n r.t
  rw [q1, q2, q3, q4, q5, q7]
/-- an order's amount stored -/
theorem amt_post (h : BookAt A H b L m) (ho : OrdAt A H o) (dx : Addr) (n : Nat) :
    Post A b (fun x => x = o.adr) H L m (upd H o.adr (.ins A.cO dx (oF (o.amt n)))) L (m.setAmt o.adr n) := by
  have fr : ∀ x u, H x = some u → x ≠ o.adr → (upd H o.adr (.ins A.cO dx (oF (o.amt n)))) x = some u := fun x u q n => by rw [upd_ne n]; exact q
  obtain ⟨dx0, e0⟩ := h.at_
  obtain ⟨es, e1, e2⟩ := h.e
  have er : (setA o.adr n m.rs).map rf = m.rs.map rf := setA_key rf (fun _ _ => rfl) _ _ _
  have ew : (setA o.adr n m.ws).map rf = m.ws.map rf := setA_key rf (fun _ _ => rfl) _ _ _
  refine ⟨⟨⟨dx0, fr _ _ e0 (Ne.symm (ho.ne_book h))⟩, ?_, ?_, ⟨es, fr _ _ e1 (Ne.symm (h.ord_e ho)), e2.same fun a u ha q => fr _ _ q fun z => ?_⟩, fun o' ho' => ?_, h.n1, h.n2, h.n3⟩, fr, fun x z => ?_, fun x z => upd_live z⟩
  · show _ = some (HO.lst ((setA o.adr n m.rs).map rf))
    rw [er]
    exact fr _ _ h.r (Ne.symm (h.ord_r ho))
  · show _ = some (HO.lst ((setA o.adr n m.ws).map rf))
    rw [ew]
    exact fr _ _ h.w (Ne.symm (h.ord_w ho))
  · obtain ⟨v, _, e3⟩ := e2.lst ha
    obtain ⟨dx', e⟩ := ho
    rw [z, e] at e3
    cases e3
  · have one : ∀ l : List O, (∀ r, r ∈ l → OrdAt A H r) → o' ∈ setA o.adr n l → OrdAt A (upd H o.adr (.ins A.cO dx (oF (o.amt n)))) o' := fun l hl hm => by
      rcases mem_setA hm with ⟨h1, h2⟩ | ⟨r, h1, h2, rfl⟩
      · exact (hl _ h1).upd h2
      · refine ⟨dx, ?_⟩
        obtain ⟨d1, q1⟩ := hl r h1
        obtain ⟨d2, q2⟩ := ho
        show upd H o.adr _ r.adr = _
        rw [h2, upd_same, oF_same q2 q1 h2.symm]
    exact ho'.elim (one m.rs fun r hr => h.os r (.inl hr)) (one m.ws fun r hr => h.os r (.inr hr))
  · rcases z with z | z | z | z | z | z
    · exact .inl (.inl z)
    · exact .inl (.inr (.inl z))
    · exact .inl (.inr (.inr (.inl z)))
    · exact .inl (.inr (.inr (.inr (.inl z))))
    · refine .inl (.inr (.inr (.inr (.inr (.inl ?_)))))
      have z : x ∈ adrs (setA o.adr n m.rs) := z
      rwa [setA_adrs] at z
    · refine .inl (.inr (.inr (.inr (.inr (.inr ?_)))))
      have z : x ∈ adrs (setA o.adr n m.ws) := z
      rwa [setA_adrs] at z
/-- the book's own numbers stored -/
theorem own_post (h : BookAt A H b L m) (dx : Addr) (p : Nat) (u : Bool) :
    Post A b (fun x => x = b) H L m (upd H b (.ins A.cB dx (bF L.lr L.lw p u L.le))) L { m with lat := p, auc := u } := by
  have fr : ∀ x o, H x = some o → x ≠ b → (upd H b (.ins A.cB dx (bF L.lr L.lw p u L.le))) x = some o := fun x o q n => by rw [upd_ne n]; exact q
  obtain ⟨es, e1, e2⟩ := h.e
  refine ⟨⟨⟨dx, upd_same⟩, fr _ _ h.r (Ne.symm h.ne_r), fr _ _ h.w (Ne.symm h.ne_w), ⟨es, fr _ _ e1 (Ne.symm h.ne_e), e2.same fun a o ha q => fr _ _ q fun z => ?_⟩, fun o ho => (h.os o ho).upd ((h.os o ho).ne_book h), h.n1, h.n2, h.n3⟩, fr, fun x z => .inl z, fun x z => upd_live z⟩
  obtain ⟨v, _, e3⟩ := e2.lst ha
  obtain ⟨dx0, e0⟩ := h.at_
  rw [z, e0] at e3
  cases e3
/-- one more rests -/
theorem rest_post (h : BookAt A H b L m) (ho : OrdAt A H o) : Post A b (fun x => x = L.lr ∨ x = o.adr) H L m (upd H L.lr (.lst (m.rs.map rf ++ [rf o]))) L { m with rs := m.rs ++ [o.calm] } := by
  have fr : ∀ x u, H x = some u → x ≠ L.lr → (upd H L.lr (.lst (m.rs.map rf ++ [rf o]))) x = some u := fun x u q n => by rw [upd_ne n]; exact q
  obtain ⟨dx0, e0⟩ := h.at_
  obtain ⟨es, e1, e2⟩ := h.e
  refine ⟨⟨⟨dx0, fr _ _ e0 h.ne_r⟩, ?_, fr _ _ h.w (Ne.symm h.n1), ⟨es, fr _ _ e1 (Ne.symm h.n2), e2.same fun a u ha q => fr _ _ q ?_⟩, fun o' ho' => ?_, h.n1, h.n2, h.n3⟩, fun x u q n => fr x u q fun z => n (.inl z), fun x z => ?_, fun x z => upd_live z⟩
  · rw [upd_same, List.map_append]
    rfl
  · obtain ⟨v, _, e3⟩ := e2.lst ha
    exact h.ev_r e3
  · rcases ho' with q | q
    · rcases List.mem_append.mp q with q | q
      · exact (h.os o' (.inl q)).upd (h.ord_r (h.os o' (.inl q)))
      · rw [List.mem_singleton.mp q]
        exact OrdAt.upd (o := o.calm) ho (h.ord_r ho)
    · exact (h.os o' (.inr q)).upd (h.ord_r (h.os o' (.inr q)))
  · rcases z with z | z | z | z | z | z
    · exact .inl (.inl z)
    · exact .inl (.inr (.inl z))
    · exact .inl (.inr (.inr (.inl z)))
    · exact .inl (.inr (.inr (.inr (.inl z))))
    · have z : x ∈ adrs (m.rs ++ [o.calm]) := z
      rw [adrs_app] at z
      rcases List.mem_append.mp z with z | z
      · exact .inl (.inr (.inr (.inr (.inr (.inl z)))))
      · exact .inr (.inl (.inr (List.mem_singleton.mp z)))
    · exact .inl (.inr (.inr (.inr (.inr (.inr z)))))
/-- one more waits -/
theorem wait_post (h : BookAt A H b L m) (ho : OrdAt A H o) : Post A b (fun x => x = L.lw ∨ x = o.adr) H L m (upd H L.lw (.lst (m.ws.map rf ++ [rf o]))) L { m with ws := m.ws ++ [o] } := by
  have fr : ∀ x u, H x = some u → x ≠ L.lw → (upd H L.lw (.lst (m.ws.map rf ++ [rf o]))) x = some u := fun x u q n => by rw [upd_ne n]; exact q
  obtain ⟨dx0, e0⟩ := h.at_
  obtain ⟨es, e1, e2⟩ := h.e
  refine ⟨⟨⟨dx0, fr _ _ e0 h.ne_w⟩, fr _ _ h.r h.n1, ?_, ⟨es, fr _ _ e1 (Ne.symm h.n3), e2.same fun a u ha q => fr _ _ q ?_⟩, fun o' ho' => ?_, h.n1, h.n2, h.n3⟩, fun x u q n => fr x u q fun z => n (.inl z), fun x z => ?_, fun x z => upd_live z⟩
  · rw [upd_same, List.map_append]
    rfl
  · obtain ⟨v, _, e3⟩ := e2.lst ha
    exact h.ev_w e3
  · rcases ho' with q | q
    · exact (h.os o' (.inl q)).upd (h.ord_w (h.os o' (.inl q)))
    · rcases List.mem_append.mp q with q | q
      · exact (h.os o' (.inr q)).upd (h.ord_w (h.os o' (.inr q)))
      · rw [List.mem_singleton.mp q]
        exact OrdAt.upd ho (h.ord_w ho)
  · rcases z with z | z | z | z | z | z
    · exact .inl (.inl z)
    · exact .inl (.inr (.inl z))
    · exact .inl (.inr (.inr (.inl z)))
    · exact .inl (.inr (.inr (.inr (.inl z))))
    · exact .inl (.inr (.inr (.inr (.inr (.inl z)))))
    · have z : x ∈ adrs (m.ws ++ [o]) := z
      rw [adrs_app] at z
      rcases List.mem_append.mp z with z | z
      · exact .inl (.inr (.inr (.inr (.inr (.inr z)))))
      · exact .inr (.inl (.inr (List.mem_singleton.mp z)))
/-- the events begin anew -/
theorem clear_post (h : BookAt A H b L m) {l : Addr} (hl : H l = none) (dx : Addr) :
    Post A b (fun x => x = b) H L m (upd (upd H l (.lst [])) b (.ins A.cB dx (bF L.lr L.lw m.lat m.auc l))) { L with le := l } m.clear := by
  have fr : ∀ x o, H x = some o → x ≠ b → (upd (upd H l (.lst [])) b (.ins A.cB dx (bF L.lr L.lw m.lat m.auc l))) x = some o := fun x o q n => by rw [upd_ne n, upd_ne (ne_of_none q hl)]; exact q
  have nlb : l ≠ b := fun z => by
    obtain ⟨dx0, e0⟩ := h.at_
    rw [z, e0] at hl
    cases hl
  refine ⟨⟨⟨dx, upd_same⟩, fr _ _ h.r (Ne.symm h.ne_r), fr _ _ h.w (Ne.symm h.ne_w), ⟨[], by rw [upd_ne nlb, upd_same]; rfl, rfl, fun i a q => by cases q⟩, fun o ho => ?_, h.n1, fun z => ?_, fun z => ?_⟩, fr, fun x z => ?_, fun x z => upd_live (upd_live z)⟩
  · obtain ⟨dx', q⟩ := h.os o ho
    exact ⟨dx', fr _ _ q (OrdAt.ne_book ⟨dx', q⟩ h)⟩
  · have z : L.lr = l := z
    rw [← z, h.r] at hl
    cases hl
  · have z : L.lw = l := z
    rw [← z, h.w] at hl
    cases hl
  · rcases z with z | z | z | z | z | z
    · exact .inl (.inl z)
    · exact .inl (.inr (.inl z))
    · exact .inl (.inr (.inr (.inl z)))
    · have z : x = l := z
      exact .inr (.inr (by rw [z]; exact hl))
    · exact .inl (.inr (.inr (.inr (.inr (.inl z)))))
    · exact .inl (.inr (.inr (.inr (.inr (.inr z)))))
end
/-! ## lists by their items -/
theorem at_map {α β : Type} {f : α → β} {l : List α} {i : Nat} {y : β} (h : (l.map f)[i]? = some y) : ∃ x, l[i]? = some x ∧ y = f x := by
  rw [List.getElem?_map] at h
  cases e : l[i]? with
  | none => rw [e] at h; cases h
  | some x => rw [e] at h; exact ⟨x, rfl, (Option.some.inj h).symm⟩
theorem take_up {α : Type} {l : List α} {i : Nat} {x : α} (h : l[i]? = some x) : l.take (i + 1) = l.take i ++ [x] := by
  rw [List.take_add_one, h]
  rfl
theorem find_hit {α : Type} {p : α → Bool} {l : List α} {i : Nat} {x : α} (h0 : (l.take i).find? p = none) (h : l[i]? = some x) (hp : p x = true) : l.find? p = some x := by
  have e : l = l.take i ++ (x :: l.drop (i + 1)) := by
    obtain ⟨lt, e⟩ := List.getElem?_eq_some_iff.mp h
    have q := List.drop_eq_getElem_cons lt
    rw [e] at q
    rw [← q, List.take_append_drop]
  rw [e, List.find?_append, h0, List.find?_cons, hp]
  rfl
theorem find_miss {α : Type} {p : α → Bool} {l : List α} {i : Nat} {x : α} (h0 : (l.take i).find? p = none) (h : l[i]? = some x) (hp : p x = false) : (l.take (i + 1)).find? p = none := by
  rw [take_up h, List.find?_append, h0, List.find?_cons, hp]
  rfl
/-- a book without events, as it was -/
theorem BookAt.keep0 {A : Ad} {b : Addr} {H H1 : Hp} {L : Ls} {m : B} (h : BookAt A H b L m) (h0 : m.ev = []) (k : ∀ x o, H x = some o → Ft b L m x → H1 x = some o) : BookAt A H1 b L m := by
  obtain ⟨dx, e⟩ := h.at_
  obtain ⟨es, e1, e2⟩ := h.e
  have es0 : es = [] := by
    have := e2.1
    rw [h0] at this
    exact List.eq_nil_of_length_eq_zero this
  subst es0
  refine ⟨⟨dx, k _ _ e (.inl rfl)⟩, k _ _ h.r (.inr (.inl rfl)), k _ _ h.w (.inr (.inr (.inl rfl))), ⟨[], k _ _ e1 (.inr (.inr (.inr (.inl rfl)))), by rw [h0]; rfl, fun i a q => by cases q⟩, fun o ho => ?_, h.n1, h.n2, h.n3⟩
  obtain ⟨dx, e⟩ := h.os o ho
  refine ⟨dx, k _ _ e ?_⟩
  rcases ho with ho | ho
  · exact .inr (.inr (.inr (.inr (.inl (List.mem_map.mpr ⟨o, ho, rfl⟩)))))
  · exact .inr (.inr (.inr (.inr (.inr (List.mem_map.mpr ⟨o, ho, rfl⟩)))))
/-- a slice of the list that is handed in -/
theorem cut_is {ns r : List Int} {i n : Nat} (hr : ns.drop (i + 1) = r) (hn : n ≤ r.length) (hi : i < ns.length) : cutV (ns.map V.int) (some ((i : Int) + 1)) (some ((i + 1 + n : Nat) : Int)) = (r.take n).map V.int := by
  have hlen : r.length = ns.length - (i + 1) := by rw [← hr, List.length_drop]
  unfold cutV
  have e1 : ((i : Int) + 1) = ((i + 1 : Nat) : Int) := rfl
  rw [e1, HT.sIx_nat, HT.sIx_nat, List.length_map, Nat.min_eq_left (by omega), Nat.min_eq_left (by omega), ← List.map_drop, hr, ← List.map_take]
  congr 2
  omega
end SB

/-! ## is_amount -/
namespace SB
open PySem PySem.Spec PyProof.Rows L2

def sp_is_amount (K : PySem.W.Frag) (A : Ad) : Sp := fun vs H Q _ => ∃ n : Int, vs = [.int n] ∧ Q (.bl (priceOk n)) H
section
variable {P : Program} {w : World} {K : PySem.W.Frag} {mg : Str → Option Value} {base : Heap} {A : Ad}
theorem ok_is_amount (T : All K mg A) : FnOk P w K mg base CX0 1 A.f_is_amount A.fd_is_amount ["number"] (sp_is_amount K A) := by
  refine T.F_is_amount.ok sc_is_amount (fun vs H Q E h => ?_) (fun cdv A' outer s H vs Q E hr h => ?_)
  · obtain ⟨n, rfl, q⟩ := h
    rfl
  · obtain ⟨n, rfl, q⟩ := h
    refine ⟨_, (pss_one (ps_ret (pe_chain op_le op_le pe_int (pv 0) (pe_glob (v := .int (1000000)) (by rfl) (T.g_MOST).choose_spec ⟨_, rfl⟩)))), ?_⟩
    refine ⟨_, rfl, _, _, rfl, rfl, _, rfl, ?_⟩
    refine ifb (fun c => ⟨_, _, rfl, rfl, qb q ?_⟩) (fun c => qb q ?_)
    · unfold priceOk
      rw [c]
      rfl
    · unfold priceOk
      rw [c]
      rfl
end
end SB

/-! ## has_price -/
namespace SB
open PySem PySem.Spec PyProof.Rows L2
def sp_has_price (K : PySem.W.Frag) (A : Ad) : Sp := fun vs H Q _ => ∃ k : Int, vs = [.int k] ∧ Q (.bl (priced k)) H
section
variable {P : Program} {w : World} {K : PySem.W.Frag} {mg : Str → Option Value} {base : Heap} {A : Ad}
theorem ok_has_price (T : All K mg A) : FnOk P w K mg base CX0 1 A.f_has_price A.fd_has_price ["kind"] (sp_has_price K A) := by
  refine T.F_has_price.ok sc_has_price (fun vs H Q E h => ?_) (fun cdv A' outer s H vs Q E hr h => ?_)
  · obtain ⟨k, rfl, q⟩ := h
    rfl
  · obtain ⟨k, rfl, q⟩ := h
    refine ⟨_, (pss_one (ps_ret (pe_and (pe_cmpR op_ne (pv 0) (pe_glob (v := .int (1)) (by rfl) (T.g_MARKET).choose_spec ⟨_, rfl⟩) (nomark _)) (pe_one (pe_cmpR op_ne (pv 0) (pe_glob (v := .int (5)) (by rfl) (T.g_STOP).choose_spec ⟨_, rfl⟩) (nomark _)))))), ?_⟩
    refine ⟨_, rfl, rfl, _, rfl, ?_⟩
    rw [dI]
    refine ifb (fun c => ⟨_, rfl, rfl, ?_⟩) (fun c => qb q ?_)
    · rw [dI]
      refine qb q ?_
      have c := of_decide_eq_false (not_t c)
      unfold priced
      simp [c]
    · have c := of_decide_eq_true (not_f c)
      unfold priced
      simp [c]
end
end SB

/-! ## is_stop -/
namespace SB
open PySem PySem.Spec PyProof.Rows L2

def sp_is_stop (K : PySem.W.Frag) (A : Ad) : Sp := fun vs H Q _ => ∃ k : Int, vs = [.int k] ∧ Q (.bl (stopK k)) H
section
variable {P : Program} {w : World} {K : PySem.W.Frag} {mg : Str → Option Value} {base : Heap} {A : Ad}
theorem ok_is_stop (T : All K mg A) : FnOk P w K mg base CX0 1 A.f_is_stop A.fd_is_stop ["kind"] (sp_is_stop K A) := by
  refine T.F_is_stop.ok sc_is_stop (fun vs H Q E h => ?_) (fun cdv A' outer s H vs Q E hr h => ?_)
  · obtain ⟨k, rfl, q⟩ := h
    rfl
  · obtain ⟨k, rfl, q⟩ := h
    refine ⟨_, (pss_one (ps_ret (pe_or (pe_cmpR op_eq (pv 0) (pe_glob (v := .int (5)) (by rfl) (T.g_STOP).choose_spec ⟨_, rfl⟩) (nomark _)) (pe_one (pe_cmpR op_eq (pv 0) (pe_glob (v := .int (6)) (by rfl) (T.g_STOP_LIMIT).choose_spec ⟨_, rfl⟩) (nomark _)))))), ?_⟩
    refine ⟨_, rfl, rfl, _, rfl, ?_⟩
    rw [dI]
    refine ifb (fun c => qb q ?_) (fun c => ⟨_, rfl, rfl, ?_⟩)
    · unfold stopK
      rw [c]
      rfl
    · rw [dI]
      refine qb q ?_
      unfold stopK
      rw [c]
      rfl
end
end SB

/-! ## is_order -/
namespace SB
open PySem PySem.Spec PyProof.Rows L2
def sp_is_order (K : PySem.W.Frag) (A : Ad) : Sp := fun vs H Q _ => ∃ (a : Addr) (nu ow si ki pr am tr : Int), vs = [.ref a] ∧ SqL K H a [.int nu, .int ow, .int si, .int ki, .int pr, .int am, .int tr] ∧ Q (.bl (isOrd nu ow si ki pr am tr)) H
section
variable {P : Program} {w : World} {K : PySem.W.Frag} {mg : Str → Option Value} {base : Heap} {A : Ad}
theorem ok_is_order (T : All K mg A) : FnOk P w K mg base CX0 2 A.f_is_order A.fd_is_order ["numbers"] (sp_is_order K A) := by
  refine T.F_is_order.ok sc_is_order (fun vs H Q E h => ?_) (fun cdv A' outer s H vs Q E hr h => ?_)
  · obtain ⟨a, nu, ow, si, ki, pr, am, tr, rfl, hs, q⟩ := h
    rfl
  · obtain ⟨a, nu, ow, si, ki, pr, am, tr, rfl, hs, q⟩ := h
    refine ⟨_, (pss_cons (ps_asg (pv 0) (pg_unl rfl (pgs_cons (pg_name (i := 1) sc_is_order.nd rfl (Or.inl rfl)) (pgs_cons (pg_name (i := 2) sc_is_order.nd rfl (Or.inl rfl)) (pgs_cons (pg_name (i := 3) sc_is_order.nd rfl (Or.inl rfl)) (pgs_cons (pg_name (i := 4) sc_is_order.nd rfl (Or.inl rfl)) (pgs_cons (pg_name (i := 5) sc_is_order.nd rfl (Or.inl rfl)) (pgs_cons (pg_name (i := 6) sc_is_order.nd rfl (Or.inl rfl)) (pgs_cons (pg_name (i := 7) sc_is_order.nd rfl (Or.inl rfl)) pgs_nil)))))))))
      (pss_cons (ps_if (PW.pt (pw_or (pt_cmpR op_lt (pv 1) pe_int (nomark _)) (pw_or (pt_not (pt_chain op_le op_le pe_int (pv 2) (pe_glob (v := .int (255)) (by rfl) (T.g_MOST_OWNER).choose_spec ⟨_, rfl⟩))) (pw_or (pt_not (pt_chain op_le op_le pe_int (pv 3) (pe_glob (v := .int (1)) (by rfl) (T.g_SELLS).choose_spec ⟨_, rfl⟩))) (pw_or1 (pt_not (pt_chain op_le op_le pe_int (pv 4) (pe_glob (v := .int (6)) (by rfl) (T.g_STOP_LIMIT).choose_spec ⟨_, rfl⟩)))))))) (pss_one (ps_ret pe_bl)) pss_nil)
      (pss_cons (ps_if (PW.pt (pw_and (pt_val (pe_call (ok_has_price T) (hr.mono (by decide)) (by rfl) T.g_has_price T.k_has_price T.b_has_price .nil pass0 (pa_cons (pv 4) pa_nil))) (pw_and1 (pt_not (pt_val (pe_call (ok_is_amount T) (hr.mono (by decide)) (by rfl) T.g_is_amount T.k_is_amount T.b_is_amount .nil pass0 (pa_cons (pv 5) pa_nil))))))) (pss_one (ps_ret pe_bl)) pss_nil)
      (pss_cons (ps_if (PW.pt (pw_and (pt_val (pe_call (ok_is_stop T) (hr.mono (by decide)) (by rfl) T.g_is_stop T.k_is_stop T.b_is_stop .nil pass0 (pa_cons (pv 4) pa_nil))) (pw_and1 (pt_not (pt_val (pe_call (ok_is_amount T) (hr.mono (by decide)) (by rfl) T.g_is_amount T.k_is_amount T.b_is_amount .nil pass0 (pa_cons (pv 7) pa_nil))))))) (pss_one (ps_ret pe_bl)) pss_nil)
      (pss_one (ps_ret (pe_call (ok_is_amount T) (hr.mono (by decide)) (by rfl) T.g_is_amount T.k_is_amount T.b_is_amount .nil pass0 (pa_cons (pv 6) pa_nil)))))))), ?_⟩
    refine ⟨_, rfl, a, _, rfl, hs, rfl, _, _, rfl, _, _, rfl, _, _, rfl, _, _, rfl, _, _, rfl, _, _, rfl, _, _, rfl, rfl, ?_⟩
    have no : isOrd nu ow si ki pr am tr = false → Q (.bl false) H := fun e => qb q e.symm
    have rest : (decide (1 ≤ nu) && (decide (1 ≤ ow) && decide (ow ≤ 255)) && (decide (0 ≤ si) && decide (si ≤ 1)) && (decide (0 ≤ ki) && decide (ki ≤ 6))) = true → tSeq (tIfS (tAnd (tB (tCall (sp_has_price K A) [] E0 (tCons (tVar 4) tNil))) (tNot (tB (tCall (sp_is_amount K A) [] E0 (tCons (tVar 5) tNil))))) (tRet (tC (.bl false))) tNext)
        (tSeq (tIfS (tAnd (tB (tCall (sp_is_stop K A) [] E0 (tCons (tVar 4) tNil))) (tNot (tB (tCall (sp_is_amount K A) [] E0 (tCons (tVar 7) tNil))))) (tRet (tC (.bl false))) tNext)
          (tRet (tCall (sp_is_amount K A) [] E0 (tCons (tVar 6) tNil))))
        { nx := fun _ H' => Q .non H', rt := Q } [some (.ref a), some (.int nu), some (.int ow), some (.int si), some (.int ki), some (.int pr), some (.int am), some (.int tr)] H := fun c0 => by
      have e0 : isOrd nu ow si ki pr am tr = ((!priced ki || priceOk pr) && (!stopK ki || priceOk tr) && priceOk am) := by
        unfold isOrd
        rw [c0, Bool.true_and]
      rw [e0] at no q
      have two : (!priced ki || priceOk pr) = true → tSeq (tIfS (tAnd (tB (tCall (sp_is_stop K A) [] E0 (tCons (tVar 4) tNil))) (tNot (tB (tCall (sp_is_amount K A) [] E0 (tCons (tVar 7) tNil))))) (tRet (tC (.bl false))) tNext)
          (tRet (tCall (sp_is_amount K A) [] E0 (tCons (tVar 6) tNil)))
          { nx := fun _ H' => Q .non H', rt := Q } [some (.ref a), some (.int nu), some (.int ow), some (.int si), some (.int ki), some (.int pr), some (.int am), some (.int tr)] H := fun c1 => by
        rw [c1, Bool.true_and] at no q
        have three : (!stopK ki || priceOk tr) = true → tRet (tCall (sp_is_amount K A) [] E0 (tCons (tVar 6) tNil)) { nx := fun _ H' => Q .non H', rt := Q } [some (.ref a), some (.int nu), some (.int ow), some (.int si), some (.int ki), some (.int pr), some (.int am), some (.int tr)] H := fun c2 => by
          rw [c2, Bool.true_and] at q
          exact ⟨_, rfl, am, rfl, q⟩
        refine ⟨_, rfl, ki, rfl, _, rfl, ?_⟩
        refine ifb (fun d => ?_) (fun d => iteF (three (by rw [d]; rfl)))
        refine ⟨_, rfl, tr, rfl, _, rfl, ?_⟩
        refine ifb (fun f => no ?_) (fun f => three (by rw [not_f f, Bool.or_true]))
        rw [d, not_t f]
        rfl
      refine ⟨_, rfl, ki, rfl, _, rfl, ?_⟩
      refine ifb (fun d => ?_) (fun d => iteF (two (by rw [d]; rfl)))
      refine ⟨_, rfl, pr, rfl, _, rfl, ?_⟩
      refine ifb (fun f => no ?_) (fun f => two (by rw [not_f f, Bool.or_true]))
      rw [d, not_t f]
      rfl
    refine ⟨_, rfl, _, _, rfl, rfl, _, rfl, ?_⟩
    refine ifb (fun c => iteT (no ?_)) (fun c => ?_)
    · have : ¬ 1 ≤ nu := by have := of_decide_eq_true c; omega
      unfold isOrd
      simp [this]
    have c1 : 1 ≤ nu := by have := of_decide_eq_false c; omega
    refine ⟨_, rfl, _, _, rfl, rfl, _, rfl, ?_⟩
    refine ifb (fun c => ⟨_, _, rfl, rfl, _, rfl, ?_⟩) (fun c => ⟨_, rfl, iteT (iteT (no ?_))⟩)
    rotate_left
    · have := of_decide_eq_false c
      unfold isOrd
      simp [this]
    have c2 := of_decide_eq_true c
    refine ifb (fun c => iteT (no ?_)) (fun c => ?_)
    · have := of_decide_eq_false (not_t c)
      unfold isOrd
      simp [this]
    have c3 := of_decide_eq_true (not_f c)
    refine ⟨_, rfl, _, _, rfl, rfl, _, rfl, ?_⟩
    refine ifb (fun c => ⟨_, _, rfl, rfl, _, rfl, ?_⟩) (fun c => ⟨_, rfl, iteT (iteT (no ?_))⟩)
    rotate_left
    · have := of_decide_eq_false c
      unfold isOrd
      simp [this]
    have c4 := of_decide_eq_true c
    refine ifb (fun c => iteT (no ?_)) (fun c => ?_)
    · have := of_decide_eq_false (not_t c)
      unfold isOrd
      simp [this]
    have c5 := of_decide_eq_true (not_f c)
    refine ⟨_, rfl, _, _, rfl, rfl, _, rfl, ?_⟩
    refine ifb (fun c => ⟨_, _, rfl, rfl, _, rfl, ?_⟩) (fun c => ⟨_, rfl, iteT (no ?_)⟩)
    rotate_left
    · have := of_decide_eq_false c
      unfold isOrd
      simp [this]
    have c6 := of_decide_eq_true c
    refine ifb (fun c => no ?_) (fun c => rest ?_)
    · have := of_decide_eq_false (not_t c)
      unfold isOrd
      simp [this]
    have c7 := of_decide_eq_true (not_f c)
    rw [decide_eq_true c1, decide_eq_true c2, decide_eq_true c3, decide_eq_true c4, decide_eq_true c5, decide_eq_true c6, decide_eq_true c7]
    rfl
end
end SB

/-! ## initO -/
namespace SB
open PySem PySem.Spec PyProof.Rows L2
def sp_initO (K : PySem.W.Frag) (A : Ad) : Sp := fun vs H Q _ => ∃ (p dx : Addr) (nu ow si ki pr am tr : Int), vs = [.ref p, .int nu, .int ow, .int si, .int ki, .int pr, .int am, .int tr] ∧ H p = some (.ins A.cO dx []) ∧ Q .non (upd H p (.ins A.cO dx (oL nu ow si ki pr am tr)))
section
variable {P : Program} {w : World} {K : PySem.W.Frag} {mg : Str → Option Value} {base : Heap} {A : Ad}
theorem ok_initO (T : All K mg A) : FnOk P w K mg base CX0 1 A.f_initO A.fd_initO ["self", "number", "owner", "side", "kind", "price", "amount", "trigger"] (sp_initO K A) := by
  refine T.F_initO.ok sc_initO (fun vs H Q E h => ?_) (fun cdv A' outer s H vs Q E hr h => ?_)
  · obtain ⟨p, dx, nu, ow, si, ki, pr, am, tr, rfl, hp, q⟩ := h
    rfl
  · obtain ⟨p, dx, nu, ow, si, ki, pr, am, tr, rfl, hp, q⟩ := h
    refine ⟨_, (pss_cons (ps_fld (pv 0) (pv 1) rfl)
      (pss_cons (ps_fld (pv 0) (pv 2) rfl)
      (pss_cons (ps_fld (pv 0) (pv 3) rfl)
      (pss_cons (ps_fld (pv 0) (pv 4) rfl)
      (pss_cons (ps_fld (pv 0) (pv 5) rfl)
      (pss_cons (ps_fld (pv 0) (pv 6) rfl)
      (pss_one (ps_fld (pv 0) (pv 7) rfl)))))))), ?_⟩
    refine ⟨_, rfl, _, rfl, p, A.cO, dx, _, rfl, hp, T.c_Order, T.n_number, (by show 0 < 1000; decide), ?_⟩
    refine ⟨_, rfl, _, rfl, p, A.cO, dx, _, rfl, upd_same, T.c_Order, T.n_owner, (by show 1 < 1000; decide), ?_⟩
    refine ⟨_, rfl, _, rfl, p, A.cO, dx, _, rfl, upd_same, T.c_Order, T.n_side, (Nat.lt_of_le_of_lt (length_putF _ _ _) (by show 2 < 1000; decide)), ?_⟩
    refine ⟨_, rfl, _, rfl, p, A.cO, dx, _, rfl, upd_same, T.c_Order, T.n_kind, (Nat.lt_of_le_of_lt (Nat.le_trans (length_putF _ _ _) (Nat.succ_le_succ (length_putF _ _ _))) (by show 3 < 1000; decide)), ?_⟩
    refine ⟨_, rfl, _, rfl, p, A.cO, dx, _, rfl, upd_same, T.c_Order, T.n_price, (Nat.lt_of_le_of_lt (Nat.le_trans (length_putF _ _ _) (Nat.succ_le_succ (Nat.le_trans (length_putF _ _ _) (Nat.succ_le_succ (length_putF _ _ _))))) (by show 4 < 1000; decide)), ?_⟩
    refine ⟨_, rfl, _, rfl, p, A.cO, dx, _, rfl, upd_same, T.c_Order, T.n_amount, (Nat.lt_of_le_of_lt (Nat.le_trans (length_putF _ _ _) (Nat.succ_le_succ (Nat.le_trans (length_putF _ _ _) (Nat.succ_le_succ (Nat.le_trans (length_putF _ _ _) (Nat.succ_le_succ (length_putF _ _ _))))))) (by show 5 < 1000; decide)), ?_⟩
    refine ⟨_, rfl, _, rfl, p, A.cO, dx, _, rfl, upd_same, T.c_Order, T.n_trigger, (Nat.lt_of_le_of_lt (Nat.le_trans (length_putF _ _ _) (Nat.succ_le_succ (Nat.le_trans (length_putF _ _ _) (Nat.succ_le_succ (Nat.le_trans (length_putF _ _ _) (Nat.succ_le_succ (Nat.le_trans (length_putF _ _ _) (Nat.succ_le_succ (length_putF _ _ _))))))))) (by show 6 < 1000; decide)), ?_⟩
    show Q .non _
    rw [upd_upd, upd_upd, upd_upd, upd_upd, upd_upd, upd_upd]
    rw [← ol_new] at q
    exact q
end
end SB

/-! ## accepts -/
namespace SB
open PySem PySem.Spec PyProof.Rows L2
def sp_accepts (K : PySem.W.Frag) (A : Ad) : Sp := fun vs H Q _ => ∃ (o : O) (p : Nat), vs = [rf o, nV p] ∧ OrdAt A H o ∧ Q (.bl (o.accepts p)) H
section
variable {P : Program} {w : World} {K : PySem.W.Frag} {mg : Str → Option Value} {base : Heap} {A : Ad}
theorem ok_accepts (T : All K mg A) : FnOk P w K mg base CX0 2 A.f_accepts A.fd_accepts ["self", "price"] (sp_accepts K A) := by
  refine T.F_accepts.ok sc_accepts (fun vs H Q E h => ?_) (fun cdv A' outer s H vs Q E hr h => ?_)
  · obtain ⟨o, p, rfl, ho, q⟩ := h
    rfl
  · obtain ⟨o, p, rfl, ho, q⟩ := h
    refine ⟨_, (pss_cons (ps_if (pt_not (pt_val (pe_call (ok_has_price T) (hr.mono (by decide)) (by rfl) T.g_has_price T.k_has_price T.b_has_price .nil pass0 (pa_cons (pe_fld (pv 0) rfl) pa_nil)))) (pss_one (ps_ret pe_bl)) pss_nil)
      (pss_cons (ps_if (pt_cmpR op_eq (pe_fld (pv 0) rfl) (pe_glob (v := .int (0)) (by rfl) (T.g_BUYS).choose_spec ⟨_, rfl⟩) (nomark _)) (pss_one (ps_ret (pe_cmpR op_le (pv 1) (pe_fld (pv 0) rfl) (nomark _)))) pss_nil)
      (pss_one (ps_ret (pe_cmpR op_ge (pv 1) (pe_fld (pv 0) rfl) (nomark _)))))), ?_⟩
    refine ⟨_, rfl, rdO T ho T.n_kind (ol_kind _ _ _ _ _ _ _) ⟨_, rfl, _, rfl, ?_⟩⟩
    refine ifb (fun c => ?_) (fun c => ?_)
    · refine qb q ?_
      unfold O.accepts
      rw [not_t c]
      rfl
    · refine ⟨_, rfl, rdO T ho T.n_side (ol_side _ _ _ _ _ _ _) ⟨rfl, _, rfl, ?_⟩⟩
      rw [dI, sI_zero]
      refine ifb (fun d => ?_) (fun d => ?_)
      · refine ⟨_, rfl, _, rfl, rdO T ho T.n_price (ol_price _ _ _ _ _ _ _) ⟨_, _, rfl, rfl, qb q ?_⟩⟩
        unfold O.accepts
        rw [not_f c, if_pos rfl, d, if_pos rfl, nat_le]
      · refine ⟨_, rfl, _, rfl, rdO T ho T.n_price (ol_price _ _ _ _ _ _ _) ⟨_, _, rfl, rfl, qb q ?_⟩⟩
        unfold O.accepts
        rw [not_f c, if_pos rfl, d, if_neg Bool.false_ne_true, nat_le]
end
end SB

/-! ## goes_before -/
namespace SB
open PySem PySem.Spec PyProof.Rows L2
def sp_goes_before (K : PySem.W.Frag) (A : Ad) : Sp := fun vs H Q _ => ∃ (o f : O), vs = [rf o, rf f] ∧ OrdAt A H o ∧ OrdAt A H f ∧ Q (.bl (o.before f)) H
section
variable {P : Program} {w : World} {K : PySem.W.Frag} {mg : Str → Option Value} {base : Heap} {A : Ad}
theorem ok_goes_before (T : All K mg A) : FnOk P w K mg base CX0 1 A.f_goes_before A.fd_goes_before ["self", "other"] (sp_goes_before K A) := by
  refine T.F_goes_before.ok sc_goes_before (fun vs H Q E h => ?_) (fun cdv A' outer s H vs Q E hr h => ?_)
  · obtain ⟨o, f, rfl, ho, hf, q⟩ := h
    rfl
  · obtain ⟨o, f, rfl, ho, hf, q⟩ := h
    refine ⟨_, (pss_cons (ps_if (pt_cmpR op_eq (pe_fld (pv 0) rfl) (pe_glob (v := .int (0)) (by rfl) (T.g_BUYS).choose_spec ⟨_, rfl⟩) (nomark _)) (pss_one (ps_ret (pe_cmpR op_gt (pe_fld (pv 0) rfl) (pe_fld (pv 1) rfl) (nomark _)))) pss_nil)
      (pss_one (ps_ret (pe_cmpR op_lt (pe_fld (pv 0) rfl) (pe_fld (pv 1) rfl) (nomark _))))), ?_⟩
    refine ⟨_, rfl, rdO T ho T.n_side (ol_side _ _ _ _ _ _ _) ⟨rfl, _, rfl, ?_⟩⟩
    rw [dI, sI_zero]
    refine ifb (fun d => ?_) (fun d => ?_)
    · refine ⟨_, rfl, rdO T ho T.n_price (ol_price _ _ _ _ _ _ _) ⟨_, rfl, rdO T hf T.n_price (ol_price _ _ _ _ _ _ _) ⟨_, _, rfl, rfl, qb q ?_⟩⟩⟩
      unfold O.before
      rw [d, if_pos rfl, nat_lt]
    · refine ⟨_, rfl, rdO T ho T.n_price (ol_price _ _ _ _ _ _ _) ⟨_, rfl, rdO T hf T.n_price (ol_price _ _ _ _ _ _ _) ⟨_, _, rfl, rfl, qb q ?_⟩⟩⟩
      unfold O.before
      rw [d, if_neg Bool.false_ne_true, nat_lt]
end
end SB

/-! ## is_triggered -/
namespace SB
open PySem PySem.Spec PyProof.Rows L2
def sp_is_triggered (K : PySem.W.Frag) (A : Ad) : Sp := fun vs H Q _ => ∃ (o : O) (p : Nat), vs = [rf o, nV p] ∧ OrdAt A H o ∧ Q (.bl (o.pulled p)) H
section
variable {P : Program} {w : World} {K : PySem.W.Frag} {mg : Str → Option Value} {base : Heap} {A : Ad}
theorem ok_is_triggered (T : All K mg A) : FnOk P w K mg base CX0 1 A.f_is_triggered A.fd_is_triggered ["self", "latest"] (sp_is_triggered K A) := by
  refine T.F_is_triggered.ok sc_is_triggered (fun vs H Q E h => ?_) (fun cdv A' outer s H vs Q E hr h => ?_)
  · obtain ⟨o, p, rfl, ho, q⟩ := h
    rfl
  · obtain ⟨o, p, rfl, ho, q⟩ := h
    refine ⟨_, (pss_cons (ps_if (pt_cmpR op_eq (pe_fld (pv 0) rfl) (pe_glob (v := .int (0)) (by rfl) (T.g_BUYS).choose_spec ⟨_, rfl⟩) (nomark _)) (pss_one (ps_ret (pe_cmpR op_ge (pv 1) (pe_fld (pv 0) rfl) (nomark _)))) pss_nil)
      (pss_one (ps_ret (pe_cmpR op_le (pv 1) (pe_fld (pv 0) rfl) (nomark _))))), ?_⟩
    refine ⟨_, rfl, rdO T ho T.n_side (ol_side _ _ _ _ _ _ _) ⟨rfl, _, rfl, ?_⟩⟩
    rw [dI, sI_zero]
    refine ifb (fun d => ?_) (fun d => ?_)
    · refine ⟨_, rfl, _, rfl, rdO T ho T.n_trigger (ol_trigger _ _ _ _ _ _ _) ⟨_, _, rfl, rfl, qb q ?_⟩⟩
      unfold O.pulled
      rw [d, if_pos rfl]
    · refine ⟨_, rfl, _, rfl, rdO T ho T.n_trigger (ol_trigger _ _ _ _ _ _ _) ⟨_, _, rfl, rfl, qb q ?_⟩⟩
      unfold O.pulled
      rw [d, if_neg Bool.false_ne_true]
end
end SB

/-! ## order_of -/
namespace SB
open PySem PySem.Spec PyProof.Rows L2
def sp_order_of (K : PySem.W.Frag) (A : Ad) : Sp := fun vs H Q _ => ∃ (a : Addr) (nu ow si ki pr am tr : Int), vs = [.ref a] ∧ SqL K H a [.int nu, .int ow, .int si, .int ki, .int pr, .int am, .int tr] ∧
  ∀ (H' : Hp) (x : Addr), H x = none → Same H H' → (∃ dx, H' x = some (.ins A.cO dx (oL nu ow si ki (if priced ki = true then pr else 0) am tr))) → (∀ y, H' y = none → H y = none) → Q (.ref x) H'
section
variable {P : Program} {w : World} {K : PySem.W.Frag} {mg : Str → Option Value} {base : Heap} {A : Ad}
theorem ok_order_of (T : All K mg A) : FnOk P w K mg base CX0 3 A.f_order_of A.fd_order_of ["numbers"] (sp_order_of K A) := by
  refine T.F_order_of.ok sc_order_of (fun vs H Q E h => ?_) (fun cdv A' outer s H vs Q E hr h => ?_)
  · obtain ⟨a, nu, ow, si, ki, pr, am, tr, rfl, hs, q⟩ := h
    rfl
  · obtain ⟨a, nu, ow, si, ki, pr, am, tr, rfl, hs, q⟩ := h
    refine ⟨_, (pss_cons (ps_asg (pv 0) (pg_unl rfl (pgs_cons (pg_name (i := 1) sc_order_of.nd rfl (Or.inl rfl)) (pgs_cons (pg_name (i := 2) sc_order_of.nd rfl (Or.inl rfl)) (pgs_cons (pg_name (i := 3) sc_order_of.nd rfl (Or.inl rfl)) (pgs_cons (pg_name (i := 4) sc_order_of.nd rfl (Or.inl rfl)) (pgs_cons (pg_name (i := 5) sc_order_of.nd rfl (Or.inl rfl)) (pgs_cons (pg_name (i := 6) sc_order_of.nd rfl (Or.inl rfl)) (pgs_cons (pg_name (i := 7) sc_order_of.nd rfl (Or.inl rfl)) pgs_nil)))))))))
      (pss_cons (ps_if (pt_not (pt_val (pe_call (ok_has_price T) (hr.mono (by decide)) (by rfl) T.g_has_price T.k_has_price T.b_has_price .nil pass0 (pa_cons (pv 4) pa_nil)))) (pss_one (ps_set (i := 5) sc_order_of.nd rfl (Or.inl rfl) pe_int)) pss_nil)
      (pss_one (ps_ret (pe_make T.mk_Order (ok_initO T) (hr.mono (by decide)) rfl T.g_Order T.b_initO .nil pass0 (pa_cons (pv 1) (pa_cons (pv 2) (pa_cons (pv 3) (pa_cons (pv 4) (pa_cons (pv 5) (pa_cons (pv 6) (pa_cons (pv 7) pa_nil)))))))))))), ?_⟩
    refine ⟨_, rfl, a, _, rfl, hs, rfl, _, _, rfl, _, _, rfl, _, _, rfl, _, _, rfl, _, _, rfl, _, _, rfl, _, _, rfl, rfl, ?_⟩
    have fin : ∀ z : Int, z = (if priced ki = true then pr else 0) → tRet (tMake A.cO (sp_initO K A) [] E0 (tCons (tVar 1) (tCons (tVar 2) (tCons (tVar 3) (tCons (tVar 4) (tCons (tVar 5) (tCons (tVar 6) (tCons (tVar 7) tNil)))))))) { nx := fun _ H' => Q .non H', rt := Q }
        [some (.ref a), some (.int nu), some (.int ow), some (.int si), some (.int ki), some (.int z), some (.int am), some (.int tr)] H := fun z ez => by
      refine ⟨_, rfl, _, rfl, _, rfl, _, rfl, _, rfl, _, rfl, _, rfl, ?_⟩
      intro x dx nx nd ne
      refine ⟨x, dx, _, _, _, _, _, _, _, rfl, upd_same, rfl, ?_⟩
      rw [upd_upd, ez]
      refine q _ x nx (fun y u e => ?_) ⟨dx, upd_same⟩ (fun y z => upd_live (upd_live z))
      rw [upd_ne (ne_of_none e nx), upd_ne (ne_of_none e nd)]
      exact e
    refine ⟨_, rfl, ki, rfl, _, rfl, ?_⟩
    refine ifb (fun c => fin 0 (by rw [not_t c]; rfl)) (fun c => fin pr (by rw [not_f c]; rfl))
end
end SB

/-! ## amounts_by_price -/
namespace SB
open PySem PySem.Spec PyProof.Rows L2
def sp_amounts_by_price (K : PySem.W.Frag) (A : Ad) : Sp := fun vs H Q _ => ∃ (a : Addr) (l : List O) (buy : Bool), vs = [.ref a, .int (sI buy)] ∧ SqL K H a (l.map rf) ∧ (∀ o ∈ l, OrdAt A H o) ∧ l.length < 4000 ∧
  ∀ (H' : Hp) (d : Addr) (kvs : List (Key × V)), H d = none → Same H H' → (∀ x, H' x = none → H x = none) → H' d = some (.dK kvs) → (∀ p : Nat, ((valV kvs (Sum.inl (p : Int))).getD (.int 0)) = nV (amountAt l buy p)) → Q (.ref d) H'
section
variable {P : Program} {w : World} {K : PySem.W.Frag} {mg : Str → Option Value} {base : Heap} {A : Ad}
theorem ok_amounts_by_price (T : All K mg A) : FnOk P w K mg base CX0 1 A.f_amounts_by_price A.fd_amounts_by_price ["resting", "side"] (sp_amounts_by_price K A) := by
  refine T.F_amounts_by_price.ok sc_amounts_by_price (fun vs H Q E h => ?_) (fun cdv A' outer s H vs Q E hr h => ?_)
  · obtain ⟨a, l, buy, rfl, hs, ho, hl, q⟩ := h
    rfl
  · obtain ⟨a, l, buy, rfl, hs, ho, hl, q⟩ := h
    refine ⟨_, (pss_cons (ps_set (i := 2) sc_amounts_by_price.nd rfl (Or.inl rfl) pe_dnewK)
      (pss_cons (ps_for PassesOwn.never rfl (pi_list (pv 0)) (pg_name (i := 3) sc_amounts_by_price.nd rfl (Or.inl rfl)) (pss_one (ps_if (pt_cmpR op_eq (pe_fld (pv 3) rfl) (pv 1) (nomark _)) (pss_one (ps_dput (hu_of hr) (pv 2) (pe_fld (pv 3) rfl) (pe_op op_add (pe_dget2 (hu_of hr) (pv 2) (pe_fld (pv 3) rfl) pe_int ⟨rfl, rfl, rfl, rfl⟩) (pe_fld (pv 3) rfl)) rfl)) pss_nil)))
      (pss_one (ps_ret (pv 2))))), ?_⟩
    refine fun D hD => ?_
    refine ⟨_, rfl, a, rfl, ⟨_, (upd_same_of hD).seq hs⟩, for_list (K := K) (a := a) (xs := l.map rf) (fun i σ H' => ∃ (u : Option V) (kvs : List (Key × V)), σ = [some (.ref a), some (.int (sI buy)), some (.ref D), u] ∧ Same H H' ∧ (∀ x, H' x = none → H x = none) ∧ H' D = some (.dK kvs) ∧ kvs.length ≤ i ∧ ∀ p : Nat, (valV kvs (Sum.inl (p : Int))).getD (.int 0) = nV (amountAt (l.take i) buy p))
      ⟨none, [], rfl, upd_same_of hD, fun x z => upd_live z, upd_same, Nat.le_refl _, fun p => rfl⟩ (fun i σ H' _ p => ?_) ?_ ?_⟩
    · obtain ⟨u, kvs, _, s1, _⟩ := p
      exact s1.seq hs
    · rintro i y σ H' hi ⟨u, kvs, rfl, s1, l1, ed, hk, hv⟩
      obtain ⟨o, ho1, rfl⟩ := at_map hi
      have lt : i < l.length := (List.getElem?_eq_some_iff.mp ho1).1
      have hor := (ho o (List.mem_of_getElem? ho1)).same s1
      have e2 : ∀ p, amountAt (l.take (i + 1)) buy p = amountAt (l.take i) buy p + if (o.s.buy == buy && decide (o.s.price = p)) = true then o.s.amount else 0 := fun p => by rw [take_up ho1, amountAt_snoc]
      refine ⟨_, rfl, rdO T hor T.n_side (ol_side _ _ _ _ _ _ _) ⟨_, rfl, rfl, _, rfl, ?_⟩⟩
      rw [dI, sI_eq]
      refine ifb (fun c => ?_) (fun c => ⟨some (rf o), kvs, rfl, s1, l1, ed, Nat.le_succ_of_le hk, fun p => ?_⟩)
      · refine ⟨_, rfl, D, rfl, .inl ⟨kvs, .inl ed⟩, _, rfl, rdO T hor T.n_price (ol_price _ _ _ _ _ _ _) ⟨_, DGet.k (k := Sum.inl (o.s.price : Int)) ed, _, rfl, rdO T hor T.n_amount (ol_amount _ _ _ _ _ _ _) ⟨_, _, hv o.s.price, rfl, _, rfl, _, rfl, rdO T hor T.n_price (ol_price _ _ _ _ _ _ _) ⟨D, _, rfl, DPut.k (k := Sum.inl (o.s.price : Int)) ed ?_, ?_⟩⟩⟩⟩
        · exact Nat.lt_of_le_of_lt hk (Nat.lt_trans (Nat.lt_trans lt hl) (by decide))
        · refine ⟨some (rf o), _, rfl, fun x u e => ?_, fun x z => l1 x (upd_live z), upd_same, Nat.le_trans (length_putK _ _ _) (Nat.succ_le_succ hk), fun p => ?_⟩
          · rw [upd_ne (ne_of_none e hD)]
            exact s1 x u e
          · rw [valV_put, e2, c, Bool.true_and]
            by_cases ep : p = o.s.price
            · subst ep
              rw [if_pos rfl, if_pos (decide_eq_true rfl)]
              rfl
            · rw [if_neg fun z => ep (by have := Sum.inl.inj z; omega), if_neg fun z => ep (of_decide_eq_true z).symm]
              exact hv p
      · rw [hv, e2, show (o.s.buy == buy) = false from c, Bool.false_and, if_neg Bool.false_ne_true]
        rfl
    · rintro σ H' ⟨u, kvs, rfl, s1, l1, ed, hk, hv⟩
      rw [List.length_map, List.take_length] at hv
      exact ⟨_, rfl, q H' D kvs hD s1 l1 ed hv⟩
end
end SB

/-! ## wished_at -/
namespace SB
open PySem PySem.Spec PyProof.Rows L2
def sp_wished_at (K : PySem.W.Frag) (A : Ad) : Sp := fun vs H Q _ => ∃ (a d : Addr) (ps : List Nat) (kvs : List (Key × V)) (f : Nat → Nat), vs = [.ref a, .ref d] ∧ SqL K H a (ps.map nV) ∧ H d = some (.dK kvs) ∧ ps.Nodup ∧ ps.length < 4000 ∧
  (∀ p : Nat, ((valV kvs (Sum.inl (p : Int))).getD (.int 0)) = nV (f p)) ∧
  ∀ (H' : Hp) (e : Addr) (kvs' : List (Key × V)), H e = none → Same H H' → (∀ x, H' x = none → H x = none) → H' e = some (.dK kvs') → (∀ p ∈ ps, valV kvs' (Sum.inl (p : Int)) = some (nV (wish f ps p))) → Q (.ref e) H'
section
variable {P : Program} {w : World} {K : PySem.W.Frag} {mg : Str → Option Value} {base : Heap} {A : Ad}
theorem ok_wished_at (T : All K mg A) : FnOk P w K mg base CX0 1 A.f_wished_at A.fd_wished_at ["prices", "amounts"] (sp_wished_at K A) := by
  refine T.F_wished_at.ok sc_wished_at (fun vs H Q E h => ?_) (fun cdv A' outer s H vs Q E hr h => ?_)
  · obtain ⟨a, d, ps, kvs, f, rfl, hs, hd, nd, hl, hf, q⟩ := h
    rfl
  · obtain ⟨a, d, ps, kvs, f, rfl, hs, hd, nd, hl, hf, q⟩ := h
    refine ⟨_, (pss_cons (ps_set (i := 2) sc_wished_at.nd rfl (Or.inl rfl) pe_dnewK)
      (pss_cons (ps_set (i := 3) sc_wished_at.nd rfl (Or.inl rfl) pe_int)
      (pss_cons (ps_for PassesOwn.never rfl (pi_list (pv 0)) (pg_name (i := 4) sc_wished_at.nd rfl (Or.inl rfl)) (pss_cons (ps_aug (i := 3) sc_wished_at.nd rfl (Or.inl rfl) (pe_dget2 (hu_of hr) (pv 1) (pv 4) pe_int ⟨rfl, rfl, rfl, rfl⟩) ip_add)
      (pss_one (ps_dput (hu_of hr) (pv 2) (pv 4) (pv 3) rfl))))
      (pss_one (ps_ret (pv 2)))))), ?_⟩
    have wa : ∀ (ps : List Nat) (i : Nat) (p : Nat), ps.Nodup → ps[i]? = some p → wish f ps p = ((ps.take (i + 1)).map f).sum := fun ps => by
      induction ps with
      | nil => intro i p _ h; cases h
      | cons z r ih =>
        intro i p nd h
        obtain ⟨n1, n2⟩ := List.nodup_cons.mp nd
        cases i with
        | zero =>
          cases h
          show (if z = z then f z else f z + wish f r z) = _
          rw [if_pos rfl]
          show _ = f z + 0
          omega
        | succ i =>
          have h' : r[i]? = some p := h
          have ne : ¬ z = p := fun e => n1 (by rw [e]; exact List.mem_of_getElem? h')
          show (if z = p then f z else f z + wish f r p) = (((z :: r.take (i + 1))).map f).sum
          rw [if_neg ne, ih i p n2 h', List.map_cons, List.sum_cons]
    refine fun E hE => ?_
    refine ⟨_, rfl, a, rfl, ⟨_, (upd_same_of hE).seq hs⟩, for_list (K := K) (a := a) (xs := ps.map nV) (fun i σ H' => ∃ (u : Option V) (kvs' : List (Key × V)), σ = [some (.ref a), some (.ref d), some (.ref E), some (nV ((ps.take i).map f).sum), u] ∧ Same H H' ∧ (∀ x, H' x = none → H x = none) ∧ H' E = some (.dK kvs') ∧ kvs'.length ≤ i ∧ ∀ p ∈ ps.take i, valV kvs' (Sum.inl (p : Int)) = some (nV (wish f ps p)))
      ⟨none, [], rfl, upd_same_of hE, fun x z => upd_live z, upd_same, Nat.le_refl _, fun p h => by cases h⟩ (fun i σ H' _ p => ?_) ?_ ?_⟩
    · obtain ⟨u, kvs, _, s1, _⟩ := p
      exact s1.seq hs
    · rintro i y σ H' hi ⟨u, kvs', rfl, s1, l1, ed, hk, hv⟩
      obtain ⟨p, hp1, rfl⟩ := at_map hi
      have lt : i < ps.length := (List.getElem?_eq_some_iff.mp hp1).1
      have e2 : ((ps.take (i + 1)).map f).sum = ((ps.take i).map f).sum + f p := by
        rw [take_up hp1, List.map_append, List.sum_append]
        show _ + (f p + 0) = _
        rw [Nat.add_zero]
      have hd' := s1 _ _ hd
      refine ⟨_, rfl, _, rfl, d, rfl, .inl ⟨kvs, .inl hd'⟩, _, rfl, _, DGet.k (k := Sum.inl (p : Int)) hd', _, _, rfl, hf p, ?_⟩
      have e3 : V.int ((((ps.take i).map f).sum : Int) + (f p : Int)) = nV (((ps.take (i + 1)).map f).sum) := by
        rw [e2]
        rfl
      rw [e3]
      refine ⟨_, rfl, _, rfl, _, rfl, E, _, rfl, DPut.k (k := Sum.inl (p : Int)) ed ?_, ?_⟩
      · exact Nat.lt_of_le_of_lt hk (Nat.lt_trans (Nat.lt_trans lt hl) (by decide))
      · refine ⟨some (nV p), _, rfl, fun x u e => ?_, fun x z => l1 x (upd_live z), upd_same, Nat.le_trans (length_putK _ _ _) (Nat.succ_le_succ hk), fun z hz => ?_⟩
        · rw [upd_ne (ne_of_none e hE)]
          exact s1 x u e
        · rw [valV_put]
          by_cases ep : z = p
          · subst ep
            rw [if_pos rfl, wa ps i z nd hp1]
          · rw [if_neg fun w => ep (by have := Sum.inl.inj w; omega)]
            rw [take_up hp1] at hz
            rcases List.mem_append.mp hz with hz | hz
            · exact hv z hz
            · exact absurd (List.mem_singleton.mp hz) ep
    · rintro σ H' ⟨u, kvs', rfl, s1, l1, ed, hk, hv⟩
      rw [List.length_map, List.take_length] at hv
      exact ⟨_, rfl, q H' E kvs' hE s1 l1 ed hv⟩
end
end SB

/-! ## distance -/
namespace SB
open PySem PySem.Spec PyProof.Rows L2
def sp_distance (K : PySem.W.Frag) (A : Ad) : Sp := fun vs H Q _ => ∃ p l : Nat, vs = [nV p, nV l] ∧ Q (nV (dist p l)) H
section
variable {P : Program} {w : World} {K : PySem.W.Frag} {mg : Str → Option Value} {base : Heap} {A : Ad}
theorem ok_distance (T : All K mg A) : FnOk P w K mg base CX0 1 A.f_distance A.fd_distance ["price", "latest"] (sp_distance K A) := by
  refine T.F_distance.ok sc_distance (fun vs H Q E h => ?_) (fun cdv A' outer s H vs Q E hr h => ?_)
  · obtain ⟨p, l, rfl, q⟩ := h
    rfl
  · obtain ⟨p, l, rfl, q⟩ := h
    refine ⟨_, (pss_cons (ps_if (pt_cmpR op_eq (pv 1) pe_int (nomark _)) (pss_one (ps_ret pe_int)) pss_nil)
      (pss_one (ps_ret (pe_callB call_abs (by rfl) T.b_abs (by decide +kernel) (pa_cons (pe_op op_sub (pv 0) (pv 1)) pa_nil))))), ?_⟩
    refine ⟨_, rfl, rfl, _, rfl, ?_⟩
    rw [dI]
    refine ifb (fun d => ?_) (fun d => ?_)
    · have e := of_decide_eq_true d
      refine qi q ?_
      unfold dist
      rw [if_pos (by omega)]
      rfl
    · have e := of_decide_eq_false d
      refine ⟨_, rfl, _, rfl, _, _, rfl, rfl, _, rfl, qi q ?_⟩
      have h0 : ¬ l = 0 := by omega
      unfold dist Sd17.apart
      rw [if_neg h0]
      split <;> split <;> omega
end
end SB

/-! ## auction_price -/
namespace SB
open PySem PySem.Spec PyProof.Rows L2
def sp_auction_price (K : PySem.W.Frag) (A : Ad) : Sp := fun vs H Q _ => ∃ (a : Addr) (m : B), vs = [.ref a, nV m.lat] ∧ SqL K H a (m.rs.map rf) ∧ (∀ o ∈ m.rs, OrdAt A H o) ∧ m.rs.length < 4000 ∧
  ∀ H' : Hp, Same H H' → (∀ x, H' x = none → H x = none) → Q (nV (priceNow m)) H'
section
variable {P : Program} {w : World} {K : PySem.W.Frag} {mg : Str → Option Value} {base : Heap} {A : Ad}
theorem ok_auction_price (T : All K mg A) : FnOk P w K mg base CX0 2 A.f_auction_price A.fd_auction_price ["resting", "latest"] (sp_auction_price K A) := by
  refine T.F_auction_price.ok sc_auction_price (fun vs H Q E h => ?_) (fun cdv A' outer s H vs Q E hr h => ?_)
  · obtain ⟨a, m, rfl, hs, ho, hl, q⟩ := h
    rfl
  · obtain ⟨a, m, rfl, hs, ho, hl, q⟩ := h
    refine ⟨_, (pss_cons (ps_set (i := 2) sc_auction_price.nd rfl (Or.inl rfl) (pe_callB (SBO.cr_sortS rfl) (by rfl) T.b_sorted (by decide +kernel) (pa_cons (pe_callTy (SBO.cr_setL rfl) (by rfl) T.b_set (by decide +kernel) (pa_cons (pe_lc (own := [("order", 10)]) (g := gName 10) (tt := tYes) (te := tFld K (tVar 10) "price") rfl sc_auction_price.nd (pi_list (pv 0)) (blkOk_by (own := [("order", 10)]) (N := N_auction_price) (sc := defScope s_auction_price) (by decide +kernel)) (fun _ _ _ _ _ => pg_name (i := 10) sc_auction_price.nd rfl (Or.inl rfl)) (fun _ _ _ _ _ => pts_nil) (fun _ _ _ _ _ => (pe_fld (pv 10) rfl))) pa_nil)) pa_nil)))
      (pss_cons (ps_set (i := 3) sc_auction_price.nd rfl (Or.inl rfl) (pe_call (ok_wished_at T) (hr.mono (by decide)) (by rfl) T.g_wished_at T.k_wished_at T.b_wished_at .nil pass0 (pa_cons (pv 2) (pa_cons (pe_call (ok_amounts_by_price T) (hr.mono (by decide)) (by rfl) T.g_amounts_by_price T.k_amounts_by_price T.b_amounts_by_price .nil pass0 (pa_cons (pv 0) (pa_cons (pe_glob (v := .int (1)) (by rfl) (T.g_SELLS).choose_spec ⟨_, rfl⟩) pa_nil))) pa_nil))))
      (pss_cons (ps_set (i := 4) sc_auction_price.nd rfl (Or.inl rfl) (pe_call (ok_wished_at T) (hr.mono (by decide)) (by rfl) T.g_wished_at T.k_wished_at T.b_wished_at .nil pass0 (pa_cons (pe_revL (pv 2)) (pa_cons (pe_call (ok_amounts_by_price T) (hr.mono (by decide)) (by rfl) T.g_amounts_by_price T.k_amounts_by_price T.b_amounts_by_price .nil pass0 (pa_cons (pv 0) (pa_cons (pe_glob (v := .int (0)) (by rfl) (T.g_BUYS).choose_spec ⟨_, rfl⟩) pa_nil))) pa_nil))))
      (pss_cons (ps_set (i := 5) sc_auction_price.nd rfl (Or.inl rfl) pe_non)
      (pss_cons (ps_set (i := 6) sc_auction_price.nd rfl (Or.inl rfl) pe_int)
      (pss_cons (ps_for PassesOwn.never rfl (pi_list (pv 2)) (pg_name (i := 7) sc_auction_price.nd rfl (Or.inl rfl)) (pss_cons (ps_set (i := 8) sc_auction_price.nd rfl (Or.inl rfl) (pe_callB (call_min2 rfl) (by rfl) T.b_min (by decide +kernel) (pa_cons (pe_dget (hu_of hr) (pv 4) (pv 7) (fun _ _ => rfl)) (pa_cons (pe_dget (hu_of hr) (pv 3) (pv 7) (fun _ _ => rfl)) pa_nil))))
      (pss_cons (ps_set (i := 9) sc_auction_price.nd rfl (Or.inl rfl) (pe_tup (pa_cons (pe_op op_sub pe_int (pv 8)) (pa_cons (pe_callB call_abs (by rfl) T.b_abs (by decide +kernel) (pa_cons (pe_op op_sub (pe_dget (hu_of hr) (pv 4) (pv 7) (fun _ _ => rfl)) (pe_dget (hu_of hr) (pv 3) (pv 7) (fun _ _ => rfl))) pa_nil)) (pa_cons (pe_call (ok_distance T) (hr.mono (by decide)) (by rfl) T.g_distance T.k_distance T.b_distance .nil pass0 (pa_cons (pv 7) (pa_cons (pv 1) pa_nil))) (pa_cons (pv 7) pa_nil))))))
      (pss_one (ps_if (PW.pt (pw_and (pt_cmpR op_gt (pv 8) pe_int (nomark _)) (pw_and1 (PW.pt (pw_or (pt_cmpR op_isN (pv 5) pe_non (nomark _)) (pw_or1 (pt_cmpR (op_ltT (Nat.lt_of_succ_lt (hu_of hr))) (pv 9) (pv 5) (nomark _)))))))) (pss_cons (ps_set (i := 5) sc_auction_price.nd rfl (Or.inl rfl) (pv 9))
      (pss_one (ps_set (i := 6) sc_auction_price.nd rfl (Or.inl rfl) (pv 7)))) pss_nil)))))
      (pss_one (ps_ret (pv 6))))))))), ?_⟩
    refine ⟨_, rfl, a, rfl, ⟨_, hs⟩, fun D hD => lc_list (K := K) (a := a) (xs := m.rs.map rf) (fun i H' => Same H H' ∧ (∀ x, H' x = none → H x = none) ∧ H' D = some (.lst (((m.rs.take i).map fun o => (o.s.price : Int)).map V.int)))
      ⟨upd_same_of hD, fun x z => upd_live z, upd_same⟩ (fun i H' _ p => p.1.seq hs) ?_ ?_⟩
    · rintro i y H' hi ⟨s1, l1, e1⟩
      obtain ⟨o, ho1, rfl⟩ := at_map hi
      have hor := (ho o (List.mem_of_getElem? ho1)).same s1
      refine ⟨rfl, ?_⟩
      unfold tYes
      refine ifb (fun _ => ?_) (fun z => Bool.noConfusion z)
      refine ⟨_, rfl, rdO T hor T.n_price (ol_price _ _ _ _ _ _ _) ⟨_, e1, ?_, ?_, ?_, ?_⟩⟩
      · rw [List.length_map, List.length_map]
        exact Nat.lt_of_le_of_lt (Nat.le_trans (List.take_sublist _ _).length_le (Nat.le_of_lt hl)) (by decide)
      · intro x u e
        rw [upd_ne (ne_of_none e hD)]
        exact s1 x u e
      · exact fun x z => l1 x (upd_live z)
      · rw [upd_same, take_up ho1, List.map_append, List.map_append]
        rfl
    rintro H1 ⟨s1, l1, e1⟩
    rw [List.length_map, List.take_length] at e1
    refine ⟨D, _, rfl, SqL.of e1, by rw [List.length_map]; exact hl, fun p1 c1 n1 => ⟨p1, _, c1, rfl, upd_same, fun ns p2 up mem n2 => ?_⟩⟩
    have s2 : Same H (upd (upd H1 p1 (SetO w p1 (fun j => decide (j ∈ m.rs.map fun o => (o.s.price : Int))) c1)) p2 (.lst (ns.map V.int))) := s1.trans ((upd_same_of n1).trans (upd_same_of n2))
    have l2 : ∀ x, (upd (upd H1 p1 (SetO w p1 (fun j => decide (j ∈ m.rs.map fun o => (o.s.price : Int))) c1)) p2 (.lst (ns.map V.int))) x = none → H x = none := fun x z => l1 x (upd_live (upd_live z))
    have e2 : (upd (upd H1 p1 (SetO w p1 (fun j => decide (j ∈ m.rs.map fun o => (o.s.price : Int))) c1)) p2 (.lst (ns.map V.int))) p2 = some (.lst (ns.map V.int)) := upd_same
    obtain ⟨ps, rfl⟩ : ∃ ps : List Nat, ns = ps.map fun n : Nat => (n : Int) := by
      refine ⟨ns.map Int.toNat, ?_⟩
      rw [List.map_map]
      conv => lhs; rw [← List.map_id ns]
      apply List.map_congr_left
      intro k hk
      have := of_decide_eq_true ((mem k).mp hk)
      obtain ⟨o, _, e⟩ := List.mem_map.mp this
      show k = ((k.toNat : Nat) : Int)
      rw [← e]
      rfl
    have PR : Prices m ps := by
      refine ⟨?_, fun p => ?_⟩
      · exact (List.pairwise_map.mp up).imp fun {x y} z => by omega
      · have h1 := mem (p : Int)
        rw [decide_eq_true_iff, List.mem_map, List.mem_map] at h1
        constructor
        · intro h
          obtain ⟨o, ho, e⟩ := h1.mp ⟨p, h, rfl⟩
          exact ⟨o, ho, by omega⟩
        · rintro ⟨o, ho, e⟩
          obtain ⟨p', hp', e'⟩ := h1.mpr ⟨o, ho, by omega⟩
          have : p' = p := by omega
          rwa [← this]
    have em : (ps.map fun n : Nat => (n : Int)).map V.int = ps.map nV := by
      rw [List.map_map]
      rfl
    replace e2 := e2.trans (congrArg (fun z => some (HO.lst z)) em)
    have plen : ps.length < 4000 := by
      have := nodup_len ps (m.rs.map fun o => o.s.price) PR.nd fun p hp => by
        obtain ⟨o, ho, e⟩ := (PR.mem p).mp hp
        exact List.mem_map.mpr ⟨o, ho, e⟩
      rw [List.length_map] at this
      omega
    -- the sellers
    refine ⟨_, rfl, _, rfl, a, m.rs, false, rfl, s2.seq hs, fun o h => (ho o h).same s2, hl, fun H3 d3 k3 n3 s3 l3 e3 v3 => ?_⟩
    refine ⟨p2, d3, ps, k3, amountAt m.rs false, rfl, SqL.of (s3 _ _ e2), e3, PR.nd, plen, v3, fun H4 dS kS n4 s4 l4 e4 v4 => ?_⟩
    -- the buyers
    have s24 := (s2.trans s3).trans s4
    refine ⟨_, rfl, p2, _, rfl, SqL.of (s4 _ _ (s3 _ _ e2)), fun pr npr => ?_⟩
    rw [← List.map_reverse]
    have s5 : Same H4 (upd H4 pr (.lst (ps.reverse.map nV))) := upd_same_of npr
    refine ⟨_, rfl, a, m.rs, true, rfl, (s24.trans s5).seq hs, fun o h => (ho o h).same (s24.trans s5), hl, fun H6 d6 k6 n6 s6 l6 e6 v6 => ?_⟩
    refine ⟨pr, d6, ps.reverse, k6, amountAt m.rs true, rfl, SqL.of (s6 _ _ upd_same), e6, (List.reverse_perm ps).nodup_iff.mpr PR.nd, by rw [List.length_reverse]; exact plen, v6, fun H7 dB kB n7 s7 l7 e7 v7 => ?_⟩
    have s47 : Same H4 H7 := (s5.trans s6).trans s7
    have s07 : Same H H7 := s24.trans s47
    have l07 : ∀ x, H7 x = none → H x = none := fun x z => l2 x (l3 x (l4 x (upd_live (l6 x (l7 x z)))))
    have ep7 : H7 p2 = some (.lst (ps.map nV)) := s47 _ _ (s4 _ _ (s3 _ _ e2))
    have eS7 : H7 dS = some (.dK kS) := s47 _ _ e4
    have vS : ∀ p ∈ ps, valV kS (Sum.inl (p : Int)) = some (nV (Sd17.supply (ab m) p)) := fun p h => by rw [v4 p h, supply_is PR h]
    have vB : ∀ p ∈ ps, valV kB (Sum.inl (p : Int)) = some (nV (Sd17.demand (ab m) p)) := fun p h => by rw [v7 p (List.mem_reverse.mpr h), demand_is PR h]
    let key : Nat → List Int := fun x => [0 - (vol (ab m) x : Int), (gap (ab m) x : Int), (dist x m.lat : Int), (x : Int)]
    have lexk : ∀ x y : Nat, HT.lexLt (key x) (key y) = Sd17.finer (ab m) x y := fun x y => by
      rw [finer_is]
      show (if (0 - (vol (ab m) x : Int)) = (0 - (vol (ab m) y : Int)) then (if (gap (ab m) x : Int) = (gap (ab m) y : Int) then (if (dist x m.lat : Int) = (dist y m.lat : Int) then (if (x : Int) = (y : Int) then false else decide ((x : Int) < (y : Int))) else decide ((dist x m.lat : Int) < (dist y m.lat : Int))) else decide ((gap (ab m) x : Int) < (gap (ab m) y : Int))) else decide (0 - (vol (ab m) x : Int) < 0 - (vol (ab m) y : Int))) = _
      have el : (ab m).last = m.lat := rfl
      rw [el]
      generalize vol (ab m) x = a1
      generalize vol (ab m) y = a2
      generalize gap (ab m) x = c1
      generalize gap (ab m) y = c2
      generalize dist x m.lat = d1
      generalize dist y m.lat = d2
      by_cases h1 : a1 = a2
      · rw [if_pos (by omega), if_neg (show ¬ a1 ≠ a2 by omega)]
        by_cases h2 : c1 = c2
        · rw [if_pos (by omega), if_neg (show ¬ c1 ≠ c2 by omega)]
          by_cases h3 : d1 = d2
          · rw [if_pos (by omega), if_neg (show ¬ d1 ≠ d2 by omega)]
            by_cases h4 : x = y
            · rw [if_pos (by omega), decide_eq_false (by omega)]
            · rw [if_neg (by omega), nat_lt]
          · rw [if_neg (by omega), if_pos (show d1 ≠ d2 by omega), nat_lt]
        · rw [if_neg (by omega), if_pos (show c1 ≠ c2 by omega), nat_lt]
      · rw [if_neg (by omega), if_pos (show a1 ≠ a2 by omega)]
        by_cases h5 : a2 < a1
        · rw [decide_eq_true h5, decide_eq_true (by omega)]
        · rw [decide_eq_false h5, decide_eq_false (by omega)]
    let ok : Nat → Bool := fun q => decide (0 < vol (ab m) q)
    refine ⟨_, rfl, p2, rfl, ⟨_, SqL.of ep7⟩, for_list (K := K) (a := p2) (xs := ps.map nV) (fun i σ H' => ∃ (bv : V) (u1 u2 u3 u4 : Option V), σ = [some (.ref a), some (nV m.lat), some (.ref p2), some (.ref dS), some (.ref dB), some bv, some (nV (((ps.take i).foldl (pick (ab m) ok) none).getD 0)), u1, u2, u3, u4] ∧
        Same H7 H' ∧ (∀ x, H' x = none → H7 x = none) ∧ ((((ps.take i).foldl (pick (ab m) ok) none) = none ∧ bv = .non) ∨ ∃ x t, ((ps.take i).foldl (pick (ab m) ok) none) = some x ∧ bv = .ref t ∧ H' t = some (.tup ((key x).map V.int))))
      ⟨.non, none, none, none, none, rfl, Same.refl H7, fun x z => z, .inl ⟨rfl, rfl⟩⟩ (fun i σ H' _ p => ?_) ?_ ?_⟩
    · obtain ⟨_, _, _, _, _, _, s8, _⟩ := p
      exact SqL.of (s8 _ _ ep7)
    · rintro i y σ H' hi ⟨bv, u1, u2, u3, u4, rfl, s8, l8, hb⟩
      obtain ⟨p, hp1, rfl⟩ := at_map hi
      have hm := List.mem_of_getElem? hp1
      have estep : (ps.take (i + 1)).foldl (pick (ab m) ok) none = pick (ab m) ok ((ps.take i).foldl (pick (ab m) ok) none) p := by
        rw [take_up hp1, List.foldl_append]
        rfl
      generalize (ps.take i).foldl (pick (ab m) ok) none = r at hb estep ⊢
      have gB : ∀ H0 : Hp, Same H' H0 → DGet H0 dB (.int (p : Int)) (some (nV (Sd17.demand (ab m) p))) := fun H0 s => by
        rw [← vB p hm]
        exact DGet.k (k := Sum.inl (p : Int)) (s _ _ (s8 _ _ e7))
      have gS : ∀ H0 : Hp, Same H' H0 → DGet H0 dS (.int (p : Int)) (some (nV (Sd17.supply (ab m) p))) := fun H0 s => by
        rw [← vS p hm]
        exact DGet.k (k := Sum.inl (p : Int)) (s _ _ (s8 _ _ eS7))
      have hmin : (if (Sd17.supply (ab m) p : Int) < (Sd17.demand (ab m) p : Int) then (Sd17.supply (ab m) p : Int) else (Sd17.demand (ab m) p : Int)) = ((vol (ab m) p : Nat) : Int) := by
        unfold vol
        split <;> omega
      have habs : (if (Sd17.demand (ab m) p : Int) - (Sd17.supply (ab m) p : Int) < 0 then -((Sd17.demand (ab m) p : Int) - (Sd17.supply (ab m) p : Int)) else (Sd17.demand (ab m) p : Int) - (Sd17.supply (ab m) p : Int)) = ((gap (ab m) p : Nat) : Int) := by
        unfold gap Sd17.apart
        split <;> split <;> omega
      refine ⟨_, rfl, _, rfl, dB, _, rfl, gB _ (Same.refl _), _, rfl, _, rfl, dS, _, rfl, gS _ (Same.refl _), _, _, rfl, ?_⟩
      rw [hmin]
      refine ⟨_, rfl, _, _, rfl, rfl, _, rfl, _, rfl, dB, _, rfl, gB _ (Same.refl _), _, rfl, _, rfl, dS, _, rfl, gS _ (Same.refl _), _, _, rfl, rfl, _, rfl, _, rfl, _, rfl, p, m.lat, rfl, _, rfl, (by show 4 ≤ sizeLine; decide), fun t ht => ?_⟩
      rw [habs]
      have s9 : Same H' (upd H' t (.tup [.int (0 - (vol (ab m) p : Int)), .int (gap (ab m) p : Int), nV (dist p m.lat), nV p])) := upd_same_of ht
      have et : (upd H' t (.tup [.int (0 - (vol (ab m) p : Int)), .int (gap (ab m) p : Int), nV (dist p m.lat), nV p])) t = some (.tup ((key p).map V.int)) := upd_same
      have l9 : ∀ x, (upd H' t (.tup [.int (0 - (vol (ab m) p : Int)), .int (gap (ab m) p : Int), nV (dist p m.lat), nV p])) x = none → H7 x = none := fun x z => l8 x (upd_live z)
      generalize upd H' t (.tup [.int (0 - (vol (ab m) p : Int)), .int (gap (ab m) p : Int), nV (dist p m.lat), nV p]) = H9 at s9 et l9 ⊢
      have s79 := s8.trans s9
      -- as it was
      have stay : pick (ab m) ok r p = r → ∃ (bv' : V) (w1 w2 w3 w4 : Option V), [some (V.ref a), some (nV m.lat), some (.ref p2), some (.ref dS), some (.ref dB), some bv, some (nV (r.getD 0)), some (nV p), some (nV (vol (ab m) p)), some (.ref t), u4] = [some (V.ref a), some (nV m.lat), some (.ref p2), some (.ref dS), some (.ref dB), some bv', some (nV (((ps.take (i + 1)).foldl (pick (ab m) ok) none).getD 0)), w1, w2, w3, w4] ∧
          Same H7 H9 ∧ (∀ x, H9 x = none → H7 x = none) ∧ ((((ps.take (i + 1)).foldl (pick (ab m) ok) none) = none ∧ bv' = .non) ∨ ∃ x t, ((ps.take (i + 1)).foldl (pick (ab m) ok) none) = some x ∧ bv' = .ref t ∧ H9 t = some (.tup ((key x).map V.int))) := fun e => by
        rw [estep, e]
        refine ⟨bv, _, _, _, _, rfl, s79, l9, ?_⟩
        rcases hb with hb | ⟨x, t', h1, h2, h3⟩
        · exact .inl hb
        · exact .inr ⟨x, t', h1, h2, s9 _ _ h3⟩
      -- the better one
      have turn : pick (ab m) ok r p = some p → ∃ (bv' : V) (w1 w2 w3 w4 : Option V), [some (V.ref a), some (nV m.lat), some (.ref p2), some (.ref dS), some (.ref dB), some (.ref t), some (nV p), some (nV p), some (nV (vol (ab m) p)), some (.ref t), u4] = [some (V.ref a), some (nV m.lat), some (.ref p2), some (.ref dS), some (.ref dB), some bv', some (nV (((ps.take (i + 1)).foldl (pick (ab m) ok) none).getD 0)), w1, w2, w3, w4] ∧
          Same H7 H9 ∧ (∀ x, H9 x = none → H7 x = none) ∧ ((((ps.take (i + 1)).foldl (pick (ab m) ok) none) = none ∧ bv' = .non) ∨ ∃ x t, ((ps.take (i + 1)).foldl (pick (ab m) ok) none) = some x ∧ bv' = .ref t ∧ H9 t = some (.tup ((key x).map V.int))) := fun e => by
        rw [estep, e]
        exact ⟨.ref t, _, _, _, _, rfl, s79, l9, .inr ⟨p, t, rfl, rfl, et⟩⟩
      refine ⟨_, rfl, _, _, rfl, rfl, _, rfl, ?_⟩
      refine ifb (fun c => ?_) (fun c => iteF (stay ?_))
      · have okp : ok p = true := decide_eq_true (by have := of_decide_eq_true c; omega)
        rcases hb with ⟨h1, h2⟩ | ⟨x, t', h1, h2, h3⟩
        · subst h1 h2
          refine ⟨_, rfl, rfl, _, rfl, iteT (iteT ⟨_, rfl, _, rfl, turn ?_⟩)⟩
          unfold pick
          rw [if_pos okp]
        · subst h1 h2
          refine ⟨_, rfl, rfl, _, rfl, iteF ⟨_, rfl, _, rfl, t, t', key p, key x, rfl, rfl, SqT.of et, SqT.of (s9 _ _ h3), _, rfl, ?_⟩⟩
          rw [lexk]
          refine ifb (fun d => ⟨_, rfl, _, rfl, turn ?_⟩) (fun d => stay ?_)
          · unfold pick
            rw [if_pos okp]
            show (if Sd17.finer (ab m) p x = true then some p else some x) = _
            rw [if_pos d]
          · unfold pick
            rw [if_pos okp]
            show (if Sd17.finer (ab m) p x = true then some p else some x) = _
            rw [d, if_neg Bool.false_ne_true]
      · have okp : ok p = false := decide_eq_false (by have := of_decide_eq_false c; omega)
        unfold pick
        rw [okp, if_neg Bool.false_ne_true]
    · rintro σ H' ⟨bv, u1, u2, u3, u4, rfl, s8, l8, hb⟩
      rw [List.length_map, List.take_length]
      have pe := price_is PR
      have e0 : (ps.foldl (pick (ab m) ok) none).getD 0 = priceNow m := pe
      rw [e0]
      exact ⟨_, rfl, q H' (s07.trans s8) fun x z => l07 x (l8 x z)⟩
end
end SB

/-! ## initB -/
namespace SB
open PySem PySem.Spec PyProof.Rows L2
def sp_initB (K : PySem.W.Frag) (A : Ad) : Sp := fun vs H Q _ => ∃ (p dx : Addr), vs = [.ref p] ∧ H p = some (.ins A.cB dx []) ∧
  ∀ (H' : Hp) (L : Ls), BookAt A H' p L B.new → (∀ x o, H x = some o → x ≠ p → H' x = some o) → (∀ x, Ft p L B.new x → x = p ∨ H x = none) → (∀ x, H' x = none → H x = none) → Q .non H'
section
variable {P : Program} {w : World} {K : PySem.W.Frag} {mg : Str → Option Value} {base : Heap} {A : Ad}
theorem ok_initB (T : All K mg A) : FnOk P w K mg base CX0 1 A.f_initB A.fd_initB ["self"] (sp_initB K A) := by
  refine T.F_initB.ok sc_initB (fun vs H Q E h => ?_) (fun cdv A' outer s H vs Q E hr h => ?_)
  · obtain ⟨p, dx, rfl, hp, q⟩ := h
    rfl
  · obtain ⟨p, dx, rfl, hp, q⟩ := h
    refine ⟨_, (pss_cons (ps_fld (pv 0) (pe_lst pa_nil) rfl)
      (pss_cons (ps_fld (pv 0) (pe_lst pa_nil) rfl)
      (pss_cons (ps_fld (pv 0) pe_int rfl)
      (pss_cons (ps_fld (pv 0) pe_bl rfl)
      (pss_one (ps_fld (pv 0) (pe_lst pa_nil) rfl)))))), ?_⟩
    refine ⟨Nat.zero_le _, fun lr n1 => ⟨_, rfl, p, A.cB, dx, _, rfl, by rw [upd_ne (ne_of_none hp n1)]; exact hp, T.c_Book, T.n_resting, (by show 0 < 1000; decide), ?_⟩⟩
    refine ⟨Nat.zero_le _, fun lw n2 => ⟨_, rfl, p, A.cB, dx, _, rfl, by rw [upd_ne (ne_of_none upd_same n2)]; exact upd_same, T.c_Book, T.n_waiting, (by show 1 < 1000; decide), ?_⟩⟩
    refine ⟨_, rfl, p, A.cB, dx, _, rfl, upd_same, T.c_Book, T.n_latest, (Nat.lt_of_le_of_lt (length_putF _ _ _) (by show 2 < 1000; decide)), ?_⟩
    refine ⟨_, rfl, p, A.cB, dx, _, rfl, upd_same, T.c_Book, T.n_auction, (Nat.lt_of_le_of_lt (Nat.le_trans (length_putF _ _ _) (Nat.succ_le_succ (length_putF _ _ _))) (by show 3 < 1000; decide)), ?_⟩
    refine ⟨Nat.zero_le _, fun le n3 => ⟨_, rfl, p, A.cB, dx, _, rfl, by rw [upd_ne (ne_of_none upd_same n3)]; exact upd_same, T.c_Book, T.n_events, (Nat.lt_of_le_of_lt (Nat.le_trans (length_putF _ _ _) (Nat.succ_le_succ (Nat.le_trans (length_putF _ _ _) (Nat.succ_le_succ (length_putF _ _ _))))) (by show 4 < 1000; decide)), ?_⟩⟩
    rw [bf_new]
    have a1 : p ≠ lr := ne_of_none hp n1
    have a2 : p ≠ lw := ne_of_none upd_same n2
    have a3 : p ≠ le := ne_of_none upd_same n3
    rw [upd_ne (Ne.symm a2)] at n2
    have m2 : H lw = none := upd_live n2
    have b1 : lr ≠ lw := ne_of_none upd_same n2
    have n3a := n3
    rw [upd_ne (Ne.symm a3), upd_ne (Ne.symm a3), upd_ne (Ne.symm a3)] at n3a
    have n3b := upd_live n3a
    have b3 : lw ≠ le := ne_of_none upd_same n3a
    have n3c := n3b
    rw [upd_ne (Ne.symm a3)] at n3c
    have b2 : lr ≠ le := ne_of_none upd_same n3c
    have m3 : H le = none := upd_live n3c
    refine q _ ⟨lr, lw, le⟩ ⟨⟨dx, upd_same⟩, ?_, ?_, ⟨[], ?_, rfl, fun i a e => by cases e⟩, fun o h => h.elim (fun z => by cases z) (fun z => by cases z), b1, b2, b3⟩ (fun x o e ne => ?_) (fun x z => ?_) (fun x z => ?_)
    · show upd (upd _ le _) p _ lr = _
      rw [upd_ne (Ne.symm a1), upd_ne b2, upd_ne (Ne.symm a1), upd_ne (Ne.symm a1), upd_ne (Ne.symm a1), upd_ne b1, upd_ne (Ne.symm a1), upd_same]
      rfl
    · show upd (upd _ le _) p _ lw = _
      rw [upd_ne (Ne.symm a2), upd_ne b3, upd_ne (Ne.symm a2), upd_ne (Ne.symm a2), upd_ne (Ne.symm a2), upd_same]
      rfl
    · show upd (upd _ le _) p _ le = _
      rw [upd_ne (Ne.symm a3), upd_same]
      rfl
    · rw [upd_ne ne, upd_ne (ne_of_none e m3), upd_ne ne, upd_ne ne, upd_ne ne, upd_ne (ne_of_none e m2), upd_ne ne, upd_ne (ne_of_none e n1)]
      exact e
    · rcases z with z | z | z | z | z | z
      · exact .inl z
      · exact .inr (by rw [show x = lr from z]; exact n1)
      · exact .inr (by rw [show x = lw from z]; exact m2)
      · exact .inr (by rw [show x = le from z]; exact m3)
      · cases z
      · cases z
    · exact upd_live (upd_live (upd_live (upd_live (upd_live (upd_live (upd_live (upd_live z)))))))
end
end SB

/-! ## tell -/
namespace SB
open PySem PySem.Spec PyProof.Rows L2
def sp_tell (K : PySem.W.Frag) (A : Ad) : Sp := fun vs H Q _ => ∃ (b : Addr) (w x y p n l : Nat) (L : Ls) (m : B) (e : Sd17.Ev), vs = [.ref b, nV w, nV x, nV y, nV p, nV n, nV l] ∧ Sd17.numbers e = [w, x, y, p, n, l] ∧ BookAt A H b L m ∧ m.ev.length < sizeLine ∧
  ∀ H' : Hp, Post A b (fun x => x = L.le) H L m H' L (m.tell e) → Q .non H'
section
variable {P : Program} {w : World} {K : PySem.W.Frag} {mg : Str → Option Value} {base : Heap} {A : Ad}
theorem ok_tell (T : All K mg A) : FnOk P w K mg base CX0 1 A.f_tell A.fd_tell ["self", "what", "first", "second", "price", "amount", "left"] (sp_tell K A) := by
  refine T.F_tell.ok sc_tell (fun vs H Q E h => ?_) (fun cdv A' outer s H vs Q E hr h => ?_)
  · obtain ⟨b, w', x, y, p, n, l, L, m, e, rfl, hn, hb, hl, q⟩ := h
    rfl
  · obtain ⟨b, w', x, y, p, n, l, L, m, e, rfl, hn, hb, hl, q⟩ := h
    refine ⟨_, (pss_one (ps_expr (pe_bm PySem.F.plainAttrs_list PySem.F.slot_list_append PySem.F.type_list_append mt_append (pe_fld (pv 0) rfl) (pa_cons (pe_lst (pa_cons (pv 1) (pa_cons (pv 2) (pa_cons (pv 3) (pa_cons (pv 4) (pa_cons (pv 5) (pa_cons (pv 6) pa_nil))))))) pa_nil)))), ?_⟩
    obtain ⟨es, e1, e2⟩ := hb.e
    refine ⟨_, rfl, rdB T hb T.n_events (bf_events _ _ _ _ _) ⟨.inl ⟨rfl, _, SqL.of e1⟩, _, rfl, _, rfl, _, rfl, _, rfl, _, rfl, _, rfl, (by show 6 ≤ sizeLine; decide), fun z hz => ?_⟩⟩
    have ne : L.le ≠ z := fun q => by rw [← q, e1] at hz; cases hz
    refine ⟨L.le, _, _, rfl, rfl, by rw [upd_ne ne]; exact e1, by rw [List.length_map, e2.1]; exact hl, ?_⟩
    have ev : evV e = [nV w', nV x, nV y, nV p, nV n, nV l] := by
      unfold evV
      rw [hn]
      rfl
    have P := tell_post hb e1 e2 hz e
    rw [ev] at P
    exact q _ P
end
end SB

/-! ## found_in -/
namespace SB
open PySem PySem.Spec PyProof.Rows L2
def sp_found_in (K : PySem.W.Frag) (A : Ad) : Sp := fun vs H Q _ => ∃ (v : V) (a : Addr) (l : List O) (n : Int), vs = [v, .ref a, .int n] ∧ SqL K H a (l.map rf) ∧ (∀ o ∈ l, OrdAt A H o) ∧ Q (optV (l.find? fun o => decide ((o.s.id : Int) = n))) H
section
variable {P : Program} {w : World} {K : PySem.W.Frag} {mg : Str → Option Value} {base : Heap} {A : Ad}
theorem ok_found_in (T : All K mg A) : FnOk P w K mg base CX0 1 A.f_found_in A.fd_found_in ["self", "orders", "number"] (sp_found_in K A) := by
  refine T.F_found_in.ok sc_found_in (fun vs H Q E h => ?_) (fun cdv A' outer s H vs Q E hr h => ?_)
  · obtain ⟨v, a, l, n, rfl, hs, ho, q⟩ := h
    rfl
  · obtain ⟨v, a, l, n, rfl, hs, ho, q⟩ := h
    refine ⟨_, (pss_cons (ps_for PassesOwn.never rfl (pi_list (pv 1)) (pg_name (i := 3) sc_found_in.nd rfl (Or.inl rfl)) (pss_one (ps_if (pt_cmpR op_eq (pe_fld (pv 3) rfl) (pv 2) (nomark _)) (pss_one (ps_ret (pv 3))) pss_nil)))
      (pss_one (ps_ret pe_non))), ?_⟩
    refine ⟨_, rfl, a, rfl, ⟨_, hs⟩, for_list (K := K) (a := a) (xs := l.map rf) (fun i σ H' => ∃ u : Option V, σ = [some v, some (.ref a), some (.int n), u] ∧ H' = H ∧ (l.take i).find? (fun o => decide ((o.s.id : Int) = n)) = none)
      ⟨none, rfl, rfl, rfl⟩ (fun i σ H' _ p => ?_) ?_ ?_⟩
    · obtain ⟨u, _, rfl, _⟩ := p
      exact hs
    · rintro i y σ H' hi ⟨u, rfl, rfl, hf⟩
      obtain ⟨o, ho1, rfl⟩ := at_map hi
      have hm := List.mem_of_getElem? ho1
      refine ⟨_, rfl, rdO T (ho o hm) T.n_number (ol_number _ _ _ _ _ _ _) ⟨_, rfl, rfl, _, rfl, ?_⟩⟩
      rw [dI]
      refine ifb (fun c => ⟨_, rfl, ?_⟩) (fun c => ⟨some (rf o), rfl, rfl, find_miss hf ho1 c⟩)
      have e := find_hit hf ho1 (p := fun o => decide ((o.s.id : Int) = n)) c
      rw [e] at q
      exact q
    · rintro σ H' ⟨u, rfl, rfl, hf⟩
      rw [List.length_map, List.take_length] at hf
      rw [hf] at q
      exact q
end
end SB

/-! ## resting_order -/
namespace SB
open PySem PySem.Spec PyProof.Rows L2
def sp_resting_order (K : PySem.W.Frag) (A : Ad) : Sp := fun vs H Q _ => ∃ (b : Addr) (L : Ls) (m : B) (n : Int), vs = [.ref b, .int n] ∧ BookAt A H b L m ∧ Q (optV (m.rs.find? fun o => decide ((o.s.id : Int) = n))) H
section
variable {P : Program} {w : World} {K : PySem.W.Frag} {mg : Str → Option Value} {base : Heap} {A : Ad}
theorem ok_resting_order (T : All K mg A) : FnOk P w K mg base CX0 2 A.f_resting_order A.fd_resting_order ["self", "number"] (sp_resting_order K A) := by
  refine T.F_resting_order.ok sc_resting_order (fun vs H Q E h => ?_) (fun cdv A' outer s H vs Q E hr h => ?_)
  · obtain ⟨b, L, m, n, rfl, hb, q⟩ := h
    rfl
  · obtain ⟨b, L, m, n, rfl, hb, q⟩ := h
    refine ⟨_, (pss_one (ps_ret (pe_meth (pv 0) T.c_Book T.m_found_in (ok_found_in T) (hr.mono (by decide)) T.b_found_in .nil pass0 (pa_cons (pe_fld (pv 0) rfl) (pa_cons (pv 1) pa_nil))))), ?_⟩
    refine ⟨_, rfl, mtB hb (by decide +kernel) ⟨_, rfl, rdB T hb T.n_resting (bf_resting _ _ _ _ _) ⟨_, rfl, ?_⟩⟩⟩
    exact ⟨_, L.lr, m.rs, n, rfl, SqL.of hb.r, fun o ho => hb.os o (.inl ho), q⟩
end
end SB

/-! ## any_order -/
namespace SB
open PySem PySem.Spec PyProof.Rows L2
def sp_any_order (K : PySem.W.Frag) (A : Ad) : Sp := fun vs H Q _ => ∃ (b : Addr) (L : Ls) (m : B) (n : Int), vs = [.ref b, .int n] ∧ BookAt A H b L m ∧ m.rs.length + m.ws.length ≤ 2000 ∧
  ∀ H' : Hp, Same H H' → (∀ x, H' x = none → H x = none) → Q (optV ((m.rs ++ m.ws).find? fun o => decide ((o.s.id : Int) = n))) H'
section
variable {P : Program} {w : World} {K : PySem.W.Frag} {mg : Str → Option Value} {base : Heap} {A : Ad}
theorem ok_any_order (T : All K mg A) : FnOk P w K mg base CX0 2 A.f_any_order A.fd_any_order ["self", "number"] (sp_any_order K A) := by
  refine T.F_any_order.ok sc_any_order (fun vs H Q E h => ?_) (fun cdv A' outer s H vs Q E hr h => ?_)
  · obtain ⟨b, L, m, n, rfl, hb, hl, q⟩ := h
    rfl
  · obtain ⟨b, L, m, n, rfl, hb, hl, q⟩ := h
    refine ⟨_, (pss_one (ps_ret (pe_meth (pv 0) T.c_Book T.m_found_in (ok_found_in T) (hr.mono (by decide)) T.b_found_in .nil pass0 (pa_cons (pe_op op_cat (pe_fld (pv 0) rfl) (pe_fld (pv 0) rfl)) (pa_cons (pv 1) pa_nil))))), ?_⟩
    refine ⟨_, rfl, mtB hb (by decide +kernel) ⟨_, rfl, rdB T hb T.n_resting (bf_resting _ _ _ _ _) ⟨_, rfl, rdB T hb T.n_waiting (bf_waiting _ _ _ _ _) ⟨L.lr, L.lw, _, _, rfl, rfl, hb.r, hb.w, ?_, fun p hp => ⟨_, rfl, ?_⟩⟩⟩⟩⟩
    · rw [List.length_map, List.length_map]
      exact Nat.le_trans hl (by decide)
    · have s1 : Same H (upd H p (.lst (m.rs.map rf ++ m.ws.map rf))) := upd_same_of hp
      refine ⟨_, p, m.rs ++ m.ws, n, rfl, ?_, fun o ho => (hb.os o (List.mem_append.mp ho)).same s1, q _ s1 fun x z => upd_live z⟩
      rw [List.map_append]
      exact SqL.of upd_same
end
end SB

/-! ## take_out -/
namespace SB
open PySem PySem.Spec PyProof.Rows L2
def sp_take_out (K : PySem.W.Frag) (A : Ad) : Sp := fun vs H Q _ => ∃ (b : Addr) (L : Ls) (m : B) (n : Nat), vs = [.ref b, nV n] ∧ BookAt A H b L m ∧ m.rs.length + m.ws.length ≤ 2000 ∧
  ∀ (H' : Hp) (L' : Ls), L'.le = L.le → Post A b (fun x => x = b) H L m H' L' (m.takeOut n) → Q .non H'
section
variable {P : Program} {w : World} {K : PySem.W.Frag} {mg : Str → Option Value} {base : Heap} {A : Ad}
theorem ok_take_out (T : All K mg A) : FnOk P w K mg base CX0 1 A.f_take_out A.fd_take_out ["self", "number"] (sp_take_out K A) := by
  refine T.F_take_out.ok sc_take_out (fun vs H Q E h => ?_) (fun cdv A' outer s H vs Q E hr h => ?_)
  · obtain ⟨b, L, m, n, rfl, hb, hl, q⟩ := h
    rfl
  · obtain ⟨b, L, m, n, rfl, hb, hl, q⟩ := h
    refine ⟨_, (pss_cons (ps_fld (pv 0) (pe_lc (own := [("order", 2)]) (g := gName 2) (tt := tTest (tOp rNe (tFld K (tVar 2) "number") (tVar 1))) (te := tVar 2) rfl sc_take_out.nd (pi_list (pe_fld (pv 0) rfl)) (blkOk_by (own := [("order", 2)]) (N := N_take_out) (sc := defScope s_take_out) (by decide +kernel)) (fun _ _ _ _ _ => pg_name (i := 2) sc_take_out.nd rfl (Or.inl rfl)) (fun _ _ _ _ _ => pts_one (pt_cmpR op_ne (pe_fld (pv 2) rfl) (pv 1) (nomark _))) (fun _ _ _ _ _ => (pv 2))) rfl)
      (pss_one (ps_fld (pv 0) (pe_lc (own := [("order", 2)]) (g := gName 2) (tt := tTest (tOp rNe (tFld K (tVar 2) "number") (tVar 1))) (te := tVar 2) rfl sc_take_out.nd (pi_list (pe_fld (pv 0) rfl)) (blkOk_by (own := [("order", 2)]) (N := N_take_out) (sc := defScope s_take_out) (by decide +kernel)) (fun _ _ _ _ _ => pg_name (i := 2) sc_take_out.nd rfl (Or.inl rfl)) (fun _ _ _ _ _ => pts_one (pt_cmpR op_ne (pe_fld (pv 2) rfl) (pv 1) (nomark _))) (fun _ _ _ _ _ => (pv 2))) rfl))), ?_⟩
    have nb : ∀ x, H x = none → x ≠ b := fun x z q0 => by
      obtain ⟨dx, e⟩ := hb.at_
      rw [q0, e] at z
      cases z
    obtain ⟨dx, e0⟩ := hb.at_
    refine ⟨_, rfl, rdB T hb T.n_resting (bf_resting _ _ _ _ _) ⟨L.lr, rfl, ⟨_, SqL.of hb.r⟩, fun D1 hD1 => lc_list (K := K) (a := L.lr) (xs := m.rs.map rf) (fun i H' => Same H H' ∧ (∀ x, H' x = none → H x = none) ∧ H' D1 = some (.lst ((out n (m.rs.take i)).map rf)))
      ⟨upd_same_of hD1, fun x z => upd_live z, upd_same⟩ (fun i H' _ p => SqL.of (p.1 _ _ hb.r)) ?_ ?_⟩⟩
    · rintro i y H' hi ⟨s1, l1, e1⟩
      obtain ⟨o, ho1, rfl⟩ := at_map hi
      have hm := List.mem_of_getElem? ho1
      refine ⟨rfl, _, rfl, rdO T ((hb.os o (.inl hm)).same s1) T.n_number (ol_number _ _ _ _ _ _ _) ⟨_, rfl, rfl, _, rfl, ?_⟩⟩
      rw [dI, nat_eq]
      have e2 : out n (m.rs.take (i + 1)) = out n (m.rs.take i) ++ out n [o] := by
        rw [take_up ho1]
        exact List.filter_append ..
      refine ifb (fun c => ⟨_, rfl, _, e1, ?_, ?_, ?_, ?_⟩) (fun c => ⟨s1, l1, ?_⟩)
      · rw [List.length_map]
        exact Nat.lt_of_le_of_lt (Nat.le_trans (out_length _ _) (Nat.le_trans (List.take_sublist _ _).length_le (Nat.le_trans (Nat.le_add_right _ _) hl))) (by decide)
      · intro x u e
        rw [upd_ne (ne_of_none e hD1)]
        exact s1 x u e
      · exact fun x z => l1 x (upd_live z)
      · rw [upd_same, e2, List.map_append]
        have e3 : out n [o] = [o] := by
          unfold out
          rw [List.filter_cons, if_pos]
          · rfl
          · have := of_decide_eq_false (not_t c)
            exact decide_eq_true this
        rw [e3]
        rfl
      · rw [e1, e2]
        have e3 : out n [o] = [] := by
          unfold out
          rw [List.filter_cons, if_neg]
          · rfl
          · have := of_decide_eq_true (not_f c)
            exact fun z => (of_decide_eq_true z) this
        rw [e3, List.append_nil]
    · rintro H1 ⟨s1, l1, e1⟩
      rw [List.length_map, List.take_length] at e1
      refine ⟨_, rfl, b, A.cB, dx, _, rfl, s1 _ _ e0, T.c_Book, T.n_resting, (by show 5 < 1000; decide), ?_⟩
      rw [bp_resting]
      have k2 : ∀ x o, H x = some o → x ≠ b → (upd H1 b (.ins A.cB dx (bF D1 L.lw m.lat m.auc L.le))) x = some o := fun x o e ne => by
        rw [upd_ne ne]
        exact s1 x o e
      have ew := k2 _ _ hb.w (Ne.symm hb.ne_w)
      refine ⟨_, rfl, b, A.cB, dx, _, _, rfl, upd_same, T.c_Book, T.n_waiting, bf_waiting _ _ _ _ _, L.lw, rfl, ⟨_, SqL.of ew⟩, fun D2 hD2 => lc_list (K := K) (a := L.lw) (xs := m.ws.map rf) (fun i H' => Same (upd H1 b (.ins A.cB dx (bF D1 L.lw m.lat m.auc L.le))) H' ∧ (∀ x, H' x = none → H x = none) ∧ H' D2 = some (.lst ((out n (m.ws.take i)).map rf)))
        ⟨upd_same_of hD2, fun x z => l1 x (upd_live (upd_live z)), upd_same⟩ (fun i H' _ p => SqL.of (p.1 _ _ ew)) ?_ ?_⟩
      · rintro i y H' hi ⟨s2, l2, e2'⟩
        obtain ⟨o, ho1, rfl⟩ := at_map hi
        have hm := List.mem_of_getElem? ho1
        have hor := hb.os o (.inr hm)
        have hor' : OrdAt A H' o := by
          obtain ⟨d1, q1⟩ := hor
          exact ⟨d1, s2 _ _ (k2 _ _ q1 (OrdAt.ne_book ⟨d1, q1⟩ hb))⟩
        refine ⟨rfl, _, rfl, rdO T hor' T.n_number (ol_number _ _ _ _ _ _ _) ⟨_, rfl, rfl, _, rfl, ?_⟩⟩
        rw [dI, nat_eq]
        have e2 : out n (m.ws.take (i + 1)) = out n (m.ws.take i) ++ out n [o] := by
          rw [take_up ho1]
          exact List.filter_append ..
        refine ifb (fun c => ⟨_, rfl, _, e2', ?_, ?_, ?_, ?_⟩) (fun c => ⟨s2, l2, ?_⟩)
        · rw [List.length_map]
          exact Nat.lt_of_le_of_lt (Nat.le_trans (out_length _ _) (Nat.le_trans (List.take_sublist _ _).length_le (Nat.le_trans (Nat.le_add_left _ _) hl))) (by decide)
        · intro x u e
          rw [upd_ne (ne_of_none e hD2)]
          exact s2 x u e
        · exact fun x z => l2 x (upd_live z)
        · rw [upd_same, e2, List.map_append]
          have e3 : out n [o] = [o] := by
            unfold out
            rw [List.filter_cons, if_pos]
            · rfl
            · have := of_decide_eq_false (not_t c)
              exact decide_eq_true this
          rw [e3]
          rfl
        · rw [e2', e2]
          have e3 : out n [o] = [] := by
            unfold out
            rw [List.filter_cons, if_neg]
            · rfl
            · have := of_decide_eq_true (not_f c)
              exact fun z => (of_decide_eq_true z) this
          rw [e3, List.append_nil]
      · rintro H3 ⟨s2, l2, e2⟩
        rw [List.length_map, List.take_length] at e2
        refine ⟨_, rfl, b, A.cB, dx, _, rfl, s2 _ _ upd_same, T.c_Book, T.n_waiting, (by show 5 < 1000; decide), ?_⟩
        rw [bp_waiting]
        have hD1b : D1 ≠ b := nb D1 hD1
        have hD2' : H D2 = none := l1 D2 (upd_live hD2)
        have hD2b : D2 ≠ b := nb D2 hD2'
        have e1' : upd H1 b (.ins A.cB dx (bF D1 L.lw m.lat m.auc L.le)) D1 = some (.lst ((out n m.rs).map rf)) := by rw [upd_ne hD1b]; exact e1
        have n12 : D1 ≠ D2 := ne_of_none e1' hD2
        exact q _ ⟨D1, D2, L.le⟩ rfl (out_post hb n hD1 hD2' n12 (fun x o e ne => by rw [upd_ne ne]; exact s2 _ _ (k2 x o e ne)) ⟨dx, upd_same⟩ (by rw [upd_ne hD1b]; exact s2 _ _ e1') (by rw [upd_ne hD2b]; exact e2) fun x z => l2 x (upd_live z))
end
end SB

/-! ## best -/
namespace SB
open PySem PySem.Spec PyProof.Rows L2
def sp_best (K : PySem.W.Frag) (A : Ad) : Sp := fun vs H Q _ => ∃ (b : Addr) (L : Ls) (m : B) (buy : Bool), vs = [.ref b, .int (sI buy)] ∧ BookAt A H b L m ∧ Q (optV (best m.rs buy)) H
section
variable {P : Program} {w : World} {K : PySem.W.Frag} {mg : Str → Option Value} {base : Heap} {A : Ad}
theorem ok_best (T : All K mg A) : FnOk P w K mg base CX0 2 A.f_best A.fd_best ["self", "side"] (sp_best K A) := by
  refine T.F_best.ok sc_best (fun vs H Q E h => ?_) (fun cdv A' outer s H vs Q E hr h => ?_)
  · obtain ⟨b, L, m, buy, rfl, hb, q⟩ := h
    rfl
  · obtain ⟨b, L, m, buy, rfl, hb, q⟩ := h
    refine ⟨_, (pss_cons (ps_set (i := 2) sc_best.nd rfl (Or.inl rfl) pe_non)
      (pss_cons (ps_for PassesOwn.never rfl (pi_list (pe_fld (pv 0) rfl)) (pg_name (i := 3) sc_best.nd rfl (Or.inl rfl)) (pss_one (ps_if (PW.pt (pw_and (pt_cmpR op_eq (pe_fld (pv 3) rfl) (pv 1) (nomark _)) (pw_and1 (PW.pt (pw_or (pt_cmpR op_isN (pv 2) pe_non (nomark _)) (pw_or1 (pt_val (pe_meth (pv 3) T.c_Order T.m_goes_before (ok_goes_before T) (hr.mono (by decide)) T.b_goes_before .nil pass0 (pa_cons (pv 2) pa_nil))))))))) (pss_one (ps_set (i := 2) sc_best.nd rfl (Or.inl rfl) (pv 3))) pss_nil)))
      (pss_one (ps_ret (pv 2))))), ?_⟩
    refine ⟨_, rfl, rdB T hb T.n_resting (bf_resting _ _ _ _ _) ⟨L.lr, rfl, ⟨_, SqL.of hb.r⟩, for_list (K := K) (a := L.lr) (xs := m.rs.map rf) (fun i σ H' => ∃ u : Option V, σ = [some (.ref b), some (.int (sI buy)), some (optV ((m.rs.take i).foldl (bestStep buy) none)), u] ∧ H' = H ∧ ∀ x, (m.rs.take i).foldl (bestStep buy) none = some x → x ∈ m.rs)
      ⟨none, rfl, rfl, fun x z => nomatch z⟩ (fun i σ H' _ p => ?_) ?_ ?_⟩⟩
    · obtain ⟨u, _, rfl, _⟩ := p
      exact SqL.of hb.r
    · rintro i y σ H' hi ⟨u, rfl, rfl, hx⟩
      obtain ⟨o, ho1, rfl⟩ := at_map hi
      have hm := List.mem_of_getElem? ho1
      have ho := hb.os o (.inl hm)
      have e2 : (m.rs.take (i + 1)).foldl (bestStep buy) none = bestStep buy ((m.rs.take i).foldl (bestStep buy) none) o := by
        rw [take_up ho1, List.foldl_append]
        rfl
      generalize hf : (m.rs.take i).foldl (bestStep buy) none = f at hx e2 ⊢
      refine ⟨_, rfl, rdO T ho T.n_side (ol_side _ _ _ _ _ _ _) ⟨_, rfl, rfl, _, rfl, ?_⟩⟩
      rw [dI, sI_eq]
      refine ifb (fun c => ⟨_, rfl, rfl, _, rfl, ?_⟩) (fun c => ?_)
      · rw [opt_non]
        have no : f.isNone = true → bestStep buy f o = some o := fun z => by
          unfold bestStep
          rw [c]
          cases f with
          | none => rfl
          | some x => cases z
        refine ifb (fun d => iteT ?_) (fun d => ?_)
        · refine ⟨_, rfl, some (rf o), ?_, rfl, fun x z => ?_⟩
          · rw [e2, no d]
            rfl
          · rw [e2, no d] at z
            cases z
            exact hm
        · cases f with
          | none => cases d
          | some x =>
            have hxo := hb.os x (.inl (hx x rfl))
            refine ⟨_, rfl, mtO ho (by decide +kernel) ⟨_, rfl, o, x, rfl, ho, hxo, _, rfl, ?_⟩⟩
            have st : bestStep buy (some x) o = if o.before x = true then some o else some x := by
              unfold bestStep
              rw [c]
              rfl
            refine ifb (fun d => ?_) (fun d => ?_)
            · refine ⟨_, rfl, some (rf o), ?_, rfl, fun y z => ?_⟩
              · rw [e2, st, d, if_pos rfl]
                rfl
              · rw [e2, st, d, if_pos rfl] at z
                cases z
                exact hm
            · refine ⟨some (rf o), ?_, rfl, fun y z => ?_⟩
              · rw [e2, st, d, if_neg Bool.false_ne_true]
                rfl
              · rw [e2, st, d, if_neg Bool.false_ne_true] at z
                exact hx y z
      · refine iteF ?_
        have st : bestStep buy f o = f := by
          unfold bestStep
          rw [c]
          rfl
        refine ⟨some (rf o), ?_, rfl, fun y z => ?_⟩
        · rw [e2, st]
          rfl
        · rw [e2, st] at z
          exact hx y z
    · rintro σ H' ⟨u, rfl, rfl, _⟩
      rw [List.length_map, List.take_length]
      exact ⟨_, rfl, q⟩
end
end SB

/-! ## best_for -/
namespace SB
open PySem PySem.Spec PyProof.Rows L2
def sp_best_for (K : PySem.W.Frag) (A : Ad) : Sp := fun vs H Q _ => ∃ (b : Addr) (L : Ls) (m : B) (o : O), vs = [.ref b, rf o] ∧ BookAt A H b L m ∧ OrdAt A H o ∧ Q (optV (bestFor m o)) H
section
variable {P : Program} {w : World} {K : PySem.W.Frag} {mg : Str → Option Value} {base : Heap} {A : Ad}
theorem ok_best_for (T : All K mg A) : FnOk P w K mg base CX0 3 A.f_best_for A.fd_best_for ["self", "order"] (sp_best_for K A) := by
  refine T.F_best_for.ok sc_best_for (fun vs H Q E h => ?_) (fun cdv A' outer s H vs Q E hr h => ?_)
  · obtain ⟨b, L, m, o, rfl, hb, ho, q⟩ := h
    rfl
  · obtain ⟨b, L, m, o, rfl, hb, ho, q⟩ := h
    refine ⟨_, (pss_cons (ps_set (i := 2) sc_best_for.nd rfl (Or.inl rfl) (pe_meth (pv 0) T.c_Book T.m_best (ok_best T) (hr.mono (by decide)) T.b_best .nil pass0 (pa_cons (pe_op op_sub pe_int (pe_fld (pv 1) rfl)) pa_nil)))
      (pss_cons (ps_if (PW.pt (pw_or (pt_cmpR op_isN (pv 2) pe_non (nomark _)) (pw_or1 (pt_not (pt_val (pe_meth (pv 1) T.c_Order T.m_accepts (ok_accepts T) (hr.mono (by decide)) T.b_accepts .nil pass0 (pa_cons (pe_fld (pv 2) rfl) pa_nil))))))) (pss_one (ps_ret pe_non)) pss_nil)
      (pss_one (ps_ret (pv 2))))), ?_⟩
    refine ⟨_, rfl, mtB hb (by decide +kernel) ⟨_, rfl, rdO T ho T.n_side (ol_side _ _ _ _ _ _ _) ⟨_, _, rfl, rfl, ?_⟩⟩⟩
    refine ⟨b, L, m, !o.s.buy, ?_, hb, ?_⟩
    · exact congrArg (fun z => [V.ref b, V.int z]) (sI_not _)
    unfold bestFor at q
    cases e : best m.rs (!o.s.buy) with
    | none =>
      rw [e] at q
      exact ⟨_, rfl, rfl, _, rfl, iteT (iteT q)⟩
    | some f =>
      rw [e] at q
      have hf := hb.os f (.inl (best_mem e).1)
      refine ⟨_, rfl, rfl, _, rfl, ?_⟩
      rw [opt_non]
      refine iteF ⟨_, rfl, mtO ho (by decide +kernel) ⟨_, rfl, rdO T hf T.n_price (ol_price _ _ _ _ _ _ _) ⟨o, f.s.price, rfl, ho, _, rfl, ?_⟩⟩⟩
      have q' : Q (optV (if o.accepts f.s.price = true then some f else none)) H := q
      cases c : o.accepts f.s.price with
      | true =>
        rw [c, if_pos rfl] at q'
        exact iteF ⟨_, rfl, q'⟩
      | false =>
        rw [c, if_neg Bool.false_ne_true] at q'
        exact iteT q'
end
end SB

/-! ## rest -/
namespace SB
open PySem PySem.Spec PyProof.Rows L2
def sp_rest (K : PySem.W.Frag) (A : Ad) : Sp := fun vs H Q _ => ∃ (b : Addr) (L : Ls) (m : B) (o : O), vs = [.ref b, rf o] ∧ BookAt A H b L m ∧ OrdAt A H o ∧ m.rs.length < 3000 ∧ m.ev.length < sizeLine ∧
  ∀ H' : Hp, Post A b (fun x => x = L.lr ∨ x = L.le ∨ x = o.adr) H L m H' L (m.rest o) → Q .non H'
section
variable {P : Program} {w : World} {K : PySem.W.Frag} {mg : Str → Option Value} {base : Heap} {A : Ad}
theorem ok_rest (T : All K mg A) : FnOk P w K mg base CX0 2 A.f_rest A.fd_rest ["self", "order"] (sp_rest K A) := by
  refine T.F_rest.ok sc_rest (fun vs H Q E h => ?_) (fun cdv A' outer s H vs Q E hr h => ?_)
  · obtain ⟨b, L, m, o, rfl, hb, ho, hl, he, q⟩ := h
    rfl
  · obtain ⟨b, L, m, o, rfl, hb, ho, hl, he, q⟩ := h
    refine ⟨_, (pss_cons (ps_expr (pe_bm PySem.F.plainAttrs_list PySem.F.slot_list_append PySem.F.type_list_append mt_append (pe_fld (pv 0) rfl) (pa_cons (pv 1) pa_nil)))
      (pss_one (ps_expr (pe_meth (pv 0) T.c_Book T.m_tell (ok_tell T) (hr.mono (by decide)) T.b_tell .nil pass0 (pa_cons (pe_glob (v := .int (2)) (by rfl) (T.g_RESTS).choose_spec ⟨_, rfl⟩) (pa_cons (pe_fld (pv 1) rfl) (pa_cons pe_int (pa_cons (pe_fld (pv 1) rfl) (pa_cons (pe_fld (pv 1) rfl) (pa_cons pe_int pa_nil)))))))))), ?_⟩
    have hr0 := hb.r
    refine ⟨_, rfl, rdB T hb T.n_resting (bf_resting _ _ _ _ _) ⟨.inl ⟨rfl, _, SqL.of hr0⟩, _, rfl, L.lr, _, _, rfl, rfl, hr0, (by rw [List.length_map]; exact Nat.lt_trans hl (by decide)), ?_⟩⟩
    have P1 := rest_post hb ho
    have ho1 : OrdAt A (upd H L.lr (.lst (m.rs.map rf ++ [rf o]))) o := ho.upd (hb.ord_r ho)
    refine ⟨_, rfl, mtB P1.at_ (by decide +kernel) ?_⟩
    refine ⟨_, rfl, rdO T ho1 T.n_number (ol_number _ _ _ _ _ _ _) ⟨_, rfl, rdO T ho1 T.n_price (ol_price _ _ _ _ _ _ _) ⟨_, rfl, rdO T ho1 T.n_amount (ol_amount _ _ _ _ _ _ _) ?_⟩⟩⟩
    refine ⟨b, 2, o.s.id, 0, o.s.price, o.s.amount, 0, L, _, .rests o.s.id o.s.price o.s.amount, rfl, rfl, P1.at_, he, fun H' P2 => q H' ?_⟩
    exact P1.trans P2 (fun x z => .inl (z.elim .inl fun z => .inr (.inr z))) (fun x z => .inl (.inr (.inl z)))
end
end SB

/-! ## end -/
namespace SB
open PySem PySem.Spec PyProof.Rows L2
def sp_end (K : PySem.W.Frag) (A : Ad) : Sp := fun vs H Q _ => ∃ (b : Addr) (L : Ls) (m : B) (o : O) (why : Nat), vs = [.ref b, rf o, nV why] ∧ BookAt A H b L m ∧ OrdAt A H o ∧ m.ev.length < sizeLine ∧
  ∀ H' : Hp, Post A b (fun x => x = L.le) H L m H' L (m.fin o why) → Q .non H'
section
variable {P : Program} {w : World} {K : PySem.W.Frag} {mg : Str → Option Value} {base : Heap} {A : Ad}
theorem ok_end (T : All K mg A) : FnOk P w K mg base CX0 2 A.f_end A.fd_end ["self", "order", "why"] (sp_end K A) := by
  refine T.F_end.ok sc_end (fun vs H Q E h => ?_) (fun cdv A' outer s H vs Q E hr h => ?_)
  · obtain ⟨b, L, m, o, why, rfl, hb, ho, he, q⟩ := h
    rfl
  · obtain ⟨b, L, m, o, why, rfl, hb, ho, he, q⟩ := h
    refine ⟨_, (pss_one (ps_expr (pe_meth (pv 0) T.c_Book T.m_tell (ok_tell T) (hr.mono (by decide)) T.b_tell .nil pass0 (pa_cons (pe_glob (v := .int (3)) (by rfl) (T.g_ENDED).choose_spec ⟨_, rfl⟩) (pa_cons (pe_fld (pv 1) rfl) (pa_cons (pv 2) (pa_cons (pe_fld (pv 1) rfl) (pa_cons (pe_fld (pv 1) rfl) (pa_cons pe_int pa_nil))))))))), ?_⟩
    refine ⟨_, rfl, mtB hb (by decide +kernel) ?_⟩
    refine ⟨_, rfl, rdO T ho T.n_number (ol_number _ _ _ _ _ _ _) ⟨_, rfl, _, rfl, rdO T ho T.n_price (ol_price _ _ _ _ _ _ _) ⟨_, rfl, rdO T ho T.n_amount (ol_amount _ _ _ _ _ _ _) ?_⟩⟩⟩
    exact ⟨b, 3, o.s.id, why, o.s.price, o.s.amount, 0, L, m, .ended o.s.id why o.s.price o.s.amount, rfl, rfl, hb, he, q⟩
end
end SB

/-! ## trade -/
namespace SB
open PySem PySem.Spec PyProof.Rows L2
def sp_trade (K : PySem.W.Frag) (A : Ad) : Sp := fun vs H Q _ => ∃ (b : Addr) (L : Ls) (m : B) (f s : O) (p : Nat), vs = [.ref b, rf f, rf s, nV p] ∧ BookAt A H b L m ∧ OrdAt A H f ∧ OrdAt A H s ∧ f.adr ≠ s.adr ∧ m.ev.length < sizeLine ∧
  ∀ H' : Hp, Post A b (fun x => x = b ∨ x = L.le ∨ x = f.adr ∨ x = s.adr) H L m H' L (m.trade f s p) → OrdAt A H' (f.amt (f.s.amount - min f.s.amount s.s.amount)) → OrdAt A H' (s.amt (s.s.amount - min f.s.amount s.s.amount)) → Q .non H'
section
variable {P : Program} {w : World} {K : PySem.W.Frag} {mg : Str → Option Value} {base : Heap} {A : Ad}
theorem ok_trade (T : All K mg A) : FnOk P w K mg base CX0 2 A.f_trade A.fd_trade ["self", "first", "second", "price"] (sp_trade K A) := by
  refine T.F_trade.ok sc_trade (fun vs H Q E h => ?_) (fun cdv A' outer s H vs Q E hr h => ?_)
  · obtain ⟨b, L, m, f, s2, p, rfl, hb, hf, hs, ne, he, q⟩ := h
    rfl
  · obtain ⟨b, L, m, f, s2, p, rfl, hb, hf, hs, ne, he, q⟩ := h
    refine ⟨_, (pss_cons (ps_set (i := 4) sc_trade.nd rfl (Or.inl rfl) (pe_callB (call_min2 rfl) (by rfl) T.b_min (by decide +kernel) (pa_cons (pe_fld (pv 1) rfl) (pa_cons (pe_fld (pv 2) rfl) pa_nil))))
      (pss_cons (ps_fldaug (pv 1) (pv 4) in_sub)
      (pss_cons (ps_fldaug (pv 2) (pv 4) in_sub)
      (pss_cons (ps_fld (pv 0) (pv 3) rfl)
      (pss_one (ps_expr (pe_meth (pv 0) T.c_Book T.m_tell (ok_tell T) (hr.mono (by decide)) T.b_tell .nil pass0 (pa_cons (pe_glob (v := .int (1)) (by rfl) (T.g_TRADED).choose_spec ⟨_, rfl⟩) (pa_cons (pe_fld (pv 1) rfl) (pa_cons (pe_fld (pv 2) rfl) (pa_cons (pv 3) (pa_cons (pv 4) (pa_cons (pe_fld (pv 2) rfl) pa_nil))))))))))))), ?_⟩
    have hmin : (if (s2.s.amount : Int) < (f.s.amount : Int) then (s2.s.amount : Int) else (f.s.amount : Int)) = ((min f.s.amount s2.s.amount : Nat) : Int) := by
      split <;> omega
    have put : ∀ (o : O) (n : Nat), n ≤ o.s.amount → putF "amount" (.int ((o.s.amount : Int) - (n : Int))) (oF o) = oF (o.amt (o.s.amount - n)) := fun o n h => by
      have e : ((o.s.amount : Int) - (n : Int)) = ((o.s.amount - n : Nat) : Int) := by omega
      rw [e]
      exact ol_put ..
    refine ⟨_, rfl, rdO T hf T.n_amount (ol_amount _ _ _ _ _ _ _) ⟨_, rfl, rdO T hs T.n_amount (ol_amount _ _ _ _ _ _ _) ⟨_, _, rfl, ?_⟩⟩⟩
    rw [hmin]
    generalize hn : min f.s.amount s2.s.amount = n
    have nf : n ≤ f.s.amount := by omega
    have ns : n ≤ s2.s.amount := by omega
    obtain ⟨d1, q1⟩ := id hf
    refine ⟨_, rfl, f.adr, A.cO, d1, _, _, rfl, q1, T.c_Order, T.n_amount, ol_amount _ _ _ _ _ _ _, _, rfl, _, _, rfl, rfl, d1, _, q1, (by show 7 < 1000; decide), ?_⟩
    rw [put f n nf]
    have P1 := amt_post hb hf d1 (f.s.amount - n)
    have hs1 : OrdAt A (upd H f.adr (.ins A.cO d1 (oF (f.amt (f.s.amount - n))))) s2 := hs.upd (Ne.symm ne)
    have hf1 : OrdAt A (upd H f.adr (.ins A.cO d1 (oF (f.amt (f.s.amount - n))))) (f.amt (f.s.amount - n)) := ⟨d1, upd_same⟩
    obtain ⟨d2, q2⟩ := id hs1
    refine ⟨_, rfl, s2.adr, A.cO, d2, _, _, rfl, q2, T.c_Order, T.n_amount, ol_amount _ _ _ _ _ _ _, _, rfl, _, _, rfl, rfl, d2, _, q2, (by show 7 < 1000; decide), ?_⟩
    rw [put s2 n ns]
    have P2 := amt_post P1.at_ hs1 d2 (s2.s.amount - n)
    have hf2 := hf1.upd (x := s2.adr) (u := .ins A.cO d2 (oF (s2.amt (s2.s.amount - n)))) ne
    have hs2 : OrdAt A (upd (upd H f.adr (.ins A.cO d1 (oF (f.amt (f.s.amount - n))))) s2.adr (.ins A.cO d2 (oF (s2.amt (s2.s.amount - n))))) (s2.amt (s2.s.amount - n)) := ⟨d2, upd_same⟩
    refine ⟨_, rfl, _, rfl, wrB T P2.at_ T.n_latest fun dx e => ?_⟩
    rw [bp_latest]
    have P3 := own_post P2.at_ dx p m.auc
    have hf3 := P3.ord hf2 (hf2.ne_book P2.at_)
    have hs3 := P3.ord hs2 (hs2.ne_book P2.at_)
    refine ⟨_, rfl, mtB P3.at_ (by decide +kernel) ?_⟩
    refine ⟨_, rfl, rdO T hf3 T.n_number (ol_number _ _ _ _ _ _ _) ⟨_, rfl, rdO T hs3 T.n_number (ol_number _ _ _ _ _ _ _) ⟨_, rfl, _, rfl, _, rfl, rdO T hs3 T.n_amount (ol_amount _ _ _ _ _ _ _) ?_⟩⟩⟩
    refine ⟨b, 1, f.s.id, s2.s.id, p, n, s2.s.amount - n, L, _, .trade f.s.id s2.s.id p n (s2.s.amount - n), rfl, rfl, P3.at_, he, fun H' P4 => ?_⟩
    have PP := ((P1.trans (Z := fun x => x = b ∨ x = L.le ∨ x = f.adr ∨ x = s2.adr) P2 (fun x z => .inl (.inr (.inr (.inl z)))) (fun x z => .inl (.inr (.inr (.inr z))))).trans P3 (fun x z => .inl z) (fun x z => .inl (.inl z))).trans P4 (fun x z => .inl z) (fun x z => .inl (.inr (.inl z)))
    rw [hn] at q
    refine q H' ?_ (P4.ord hf3 (P3.at_.ord_e hf3)) (P4.ord hs3 (P3.at_.ord_e hs3))
    unfold B.trade
    rw [hn]
    exact PP
end
end SB

/-! ## take_if_done -/
namespace SB
open PySem PySem.Spec PyProof.Rows L2
def sp_take_if_done (K : PySem.W.Frag) (A : Ad) : Sp := fun vs H Q _ => ∃ (b : Addr) (L : Ls) (m : B) (o : O), vs = [.ref b, rf o] ∧ BookAt A H b L m ∧ OrdAt A H o ∧ m.rs.length + m.ws.length ≤ 2000 ∧
  ∀ (H' : Hp) (L' : Ls), L'.le = L.le → Post A b (fun x => x = b) H L m H' L' (m.done o.s.id o.s.amount) → Q .non H'
section
variable {P : Program} {w : World} {K : PySem.W.Frag} {mg : Str → Option Value} {base : Heap} {A : Ad}
theorem ok_take_if_done (T : All K mg A) : FnOk P w K mg base CX0 2 A.f_take_if_done A.fd_take_if_done ["self", "order"] (sp_take_if_done K A) := by
  refine T.F_take_if_done.ok sc_take_if_done (fun vs H Q E h => ?_) (fun cdv A' outer s H vs Q E hr h => ?_)
  · obtain ⟨b, L, m, o, rfl, hb, ho, hl, q⟩ := h
    rfl
  · obtain ⟨b, L, m, o, rfl, hb, ho, hl, q⟩ := h
    refine ⟨_, (pss_one (ps_if (pt_cmpR op_eq (pe_fld (pv 1) rfl) pe_int (nomark _)) (pss_one (ps_expr (pe_meth (pv 0) T.c_Book T.m_take_out (ok_take_out T) (hr.mono (by decide)) T.b_take_out .nil pass0 (pa_cons (pe_fld (pv 1) rfl) pa_nil)))) pss_nil)), ?_⟩
    refine ⟨_, rfl, rdO T ho T.n_amount (ol_amount _ _ _ _ _ _ _) ⟨rfl, _, rfl, ?_⟩⟩
    rw [dI]
    refine ifb (fun c => ?_) (fun c => ?_)
    · have c0 : o.s.amount = 0 := by have := of_decide_eq_true c; omega
      refine ⟨_, rfl, mtB hb (by decide +kernel) ⟨_, rfl, rdO T ho T.n_number (ol_number _ _ _ _ _ _ _) ?_⟩⟩
      refine ⟨b, L, m, o.s.id, rfl, hb, hl, fun H' L' e P => q H' L' e ?_⟩
      unfold B.done
      rw [if_pos c0]
      exact P
    · have c0 : ¬ o.s.amount = 0 := by have := of_decide_eq_false c; omega
      refine q H L rfl ?_
      unfold B.done
      rw [if_neg c0]
      exact Post.refl hb
end
end SB

/-! ## meet -/
namespace SB
open PySem PySem.Spec PyProof.Rows L2
def sp_meet (K : PySem.W.Frag) (A : Ad) : Sp := fun vs H Q _ => ∃ (b : Addr) (L : Ls) (m : B) (o r : O), vs = [.ref b, rf o, rf r] ∧ BookAt A H b L m ∧ OrdAt A H o ∧ r ∈ m.rs ∧ o.adr ∉ adrs m.rs ∧ o.adr ∉ adrs m.ws ∧ m.rs.length + m.ws.length ≤ 2000 ∧ m.ev.length < sizeLine ∧
  ∀ (H' : Hp) (L' : Ls), Post A b (fun x => Ft b L m x ∨ x = o.adr) H L m H' L' (meet m o r).2 → OrdAt A H' (meet m o r).1 → ¬ Ft b L' (meet m o r).2 o.adr → Q .non H'
section
variable {P : Program} {w : World} {K : PySem.W.Frag} {mg : Str → Option Value} {base : Heap} {A : Ad}
theorem ok_meet (T : All K mg A) : FnOk P w K mg base CX0 3 A.f_meet A.fd_meet ["self", "order", "other"] (sp_meet K A) := by
  refine T.F_meet.ok sc_meet (fun vs H Q E h => ?_) (fun cdv A' outer s H vs Q E hr h => ?_)
  · obtain ⟨b, L, m, o, r, rfl, hb, ho, hr0, n1, n2, hl, he, q⟩ := h
    rfl
  · obtain ⟨b, L, m, o, r, rfl, hb, ho, hr0, n1, n2, hl, he, q⟩ := h
    refine ⟨_, (pss_one (ps_if (pt_cmpR op_eq (pe_fld (pv 2) rfl) (pe_fld (pv 1) rfl) (nomark _)) (pss_cons (ps_expr (pe_meth (pv 0) T.c_Book T.m_take_out (ok_take_out T) (hr.mono (by decide)) T.b_take_out .nil pass0 (pa_cons (pe_fld (pv 2) rfl) pa_nil)))
      (pss_one (ps_expr (pe_meth (pv 0) T.c_Book T.m_end (ok_end T) (hr.mono (by decide)) T.b_end .nil pass0 (pa_cons (pv 2) (pa_cons (pe_glob (v := .int (5)) (by rfl) (T.g_OWN).choose_spec ⟨_, rfl⟩) pa_nil)))))) (pss_cons (ps_expr (pe_meth (pv 0) T.c_Book T.m_trade (ok_trade T) (hr.mono (by decide)) T.b_trade .nil pass0 (pa_cons (pv 1) (pa_cons (pv 2) (pa_cons (pe_fld (pv 2) rfl) pa_nil)))))
      (pss_one (ps_expr (pe_meth (pv 0) T.c_Book T.m_take_if_done (ok_take_if_done T) (hr.mono (by decide)) T.b_take_if_done .nil pass0 (pa_cons (pv 2) pa_nil))))))), ?_⟩
    have hr1 := hb.os r (.inl hr0)
    have hne : o.adr ≠ r.adr := fun z => n1 (List.mem_map.mpr ⟨r, hr0, z.symm⟩)
    have nF : ¬ Ft b L m o.adr := hb.apart ho n1 n2
    refine ⟨_, rfl, rdO T hr1 T.n_owner (ol_owner _ _ _ _ _ _ _) ⟨_, rfl, rdO T ho T.n_owner (ol_owner _ _ _ _ _ _ _) ⟨rfl, _, rfl, ?_⟩⟩⟩
    rw [dI, nat_eq]
    refine ifb (fun c => ?_) (fun c => ?_)
    · have c0 : r.s.who = o.s.who := of_decide_eq_true c
      have em : meet m o r = (o, m.gone r) := by unfold SB.meet; rw [if_pos c0]
      rw [em] at q
      refine ⟨_, rfl, mtB hb (by decide +kernel) ⟨_, rfl, rdO T hr1 T.n_number (ol_number _ _ _ _ _ _ _) ?_⟩⟩
      refine ⟨b, L, m, r.s.id, rfl, hb, hl, fun H1 L1 eL P1 => ?_⟩
      have hr2 := P1.ord hr1 (hr1.ne_book hb)
      have ho2 := P1.ord ho (ho.ne_book hb)
      refine ⟨_, rfl, mtB P1.at_ (by decide +kernel) ⟨_, rfl, ?_⟩⟩
      refine ⟨b, L1, _, r, 5, rfl, P1.at_, hr2, he, fun H2 P2 => ?_⟩
      have PP := P1.trans (Z := fun x => Ft b L m x ∨ x = o.adr) P2 (fun x z => .inl (.inl (.inl z))) (fun x z => .inl (.inl (.inr (.inr (.inr (.inl (z.trans eL)))))))
      obtain ⟨dx, e0⟩ := id ho
      refine q H2 L1 PP (P2.ord ho2 (P1.at_.ord_e ho2)) ?_
      refine P2.ft (P1.fr _ _ e0 (ho.ne_book hb)) (P1.ft e0 nF (ho.ne_book hb)) (P1.at_.ord_e ho2)
    · have c0 : ¬ r.s.who = o.s.who := of_decide_eq_false c
      have em : meet m o r = (o.amt (o.s.amount - min o.s.amount r.s.amount), (m.trade o r r.s.price).done r.s.id (r.s.amount - min o.s.amount r.s.amount)) := by unfold SB.meet; rw [if_neg c0]
      rw [em] at q
      refine ⟨_, rfl, mtB hb (by decide +kernel) ⟨_, rfl, _, rfl, _, rfl, rdO T hr1 T.n_price (ol_price _ _ _ _ _ _ _) ?_⟩⟩
      refine ⟨b, L, m, o, r, r.s.price, rfl, hb, ho, hr1, hne, he, fun H1 P1 ho1 hr2 => ?_⟩
      refine ⟨_, rfl, mtB P1.at_ (by decide +kernel) ⟨_, rfl, ?_⟩⟩
      refine ⟨b, L, _, r.amt (r.s.amount - min o.s.amount r.s.amount), rfl, P1.at_, hr2, ?_, fun H2 L2 eL P2 => ?_⟩
      · show (setA r.adr _ (setA o.adr _ m.rs)).length + (setA r.adr _ (setA o.adr _ m.ws)).length ≤ 2000
        rw [setA_length, setA_length, setA_length, setA_length]
        exact hl
      · have PP := P1.trans (Z := fun x => Ft b L m x ∨ x = o.adr) P2 (fun x z => .inl (z.elim (fun z => .inl (.inl z)) fun z => z.elim (fun z => .inl (.inr (.inr (.inr (.inl z))))) fun z => z.elim .inr fun z => .inl (.inr (.inr (.inr (.inr (.inl (List.mem_map.mpr ⟨r, hr0, z.symm⟩)))))))) (fun x z => .inl (.inl (.inl z)))
        have hob : o.adr ≠ b := ho.ne_book hb
        refine q H2 L2 PP (P2.ord ho1 hob) ?_
        have nF1 : ¬ Ft b L (m.trade o r r.s.price) o.adr := P1.at_.apart (o := o.amt (o.s.amount - min o.s.amount r.s.amount)) ho1 (fun z => n1 ?_) (fun z => n2 ?_)
        · obtain ⟨d1, e1⟩ := ho1
          exact P2.ft (x := o.adr) e1 nF1 hob
        · have z : o.adr ∈ adrs (setA r.adr _ (setA o.adr _ m.rs)) := z
          rwa [setA_adrs, setA_adrs] at z
        · have z : o.adr ∈ adrs (setA r.adr _ (setA o.adr _ m.ws)) := z
          rwa [setA_adrs, setA_adrs] at z
end
end SB

/-! ## trade_all -/
namespace SB
open PySem PySem.Spec PyProof.Rows L2
def sp_trade_all (K : PySem.W.Frag) (A : Ad) : Sp := fun vs H Q _ => ∃ (b : Addr) (L : Ls) (m : B) (o : O), vs = [.ref b, rf o] ∧ BookAt A H b L m ∧ OrdAt A H o ∧ Gd [o] m ∧ m.rs.length + m.ws.length ≤ 2000 ∧ (tradeAll (m.rs.length + 1) o m).2.ev.length ≤ sizeLine ∧
  ∀ (H' : Hp) (L' : Ls), Post A b (fun x => Ft b L m x ∨ x = o.adr) H L m H' L' (tradeAll (m.rs.length + 1) o m).2 → OrdAt A H' (tradeAll (m.rs.length + 1) o m).1 → ¬ Ft b L' (tradeAll (m.rs.length + 1) o m).2 o.adr → Q .non H'
section
variable {P : Program} {w : World} {K : PySem.W.Frag} {mg : Str → Option Value} {base : Heap} {A : Ad}
theorem ok_trade_all (T : All K mg A) : FnOk P w K mg base CX0 4 A.f_trade_all A.fd_trade_all ["self", "order"] (sp_trade_all K A) := by
  refine T.F_trade_all.ok sc_trade_all (fun vs H Q E h => ?_) (fun cdv A' outer s H vs Q E hr h => ?_)
  · obtain ⟨b, L, m, o, rfl, hb, ho, g, hl, he, q⟩ := h
    rfl
  · obtain ⟨b, L, m, o, rfl, hb, ho, g, hl, he, q⟩ := h
    refine ⟨_, (pss_cons (ps_set (i := 2) sc_trade_all.nd rfl (Or.inl rfl) (pe_meth (pv 0) T.c_Book T.m_best_for (ok_best_for T) (hr.mono (by decide)) T.b_best_for .nil pass0 (pa_cons (pv 1) pa_nil)))
      (pss_one (ps_while PassesOwn.never (PW.pt (pw_and (pt_cmpR op_gt (pe_fld (pv 1) rfl) pe_int (nomark _)) (pw_and1 (pt_cmpR op_notN (pv 2) pe_non (nomark _))))) (pss_cons (ps_expr (pe_meth (pv 0) T.c_Book T.m_meet (ok_meet T) (hr.mono (by decide)) T.b_meet .nil pass0 (pa_cons (pv 1) (pa_cons (pv 2) pa_nil))))
      (pss_one (ps_set (i := 2) sc_trade_all.nd rfl (Or.inl rfl) (pe_meth (pv 0) T.c_Book T.m_best_for (ok_best_for T) (hr.mono (by decide)) T.b_best_for .nil pass0 (pa_cons (pv 1) pa_nil)))))))), ?_⟩
    refine ⟨_, rfl, mtB hb (by decide +kernel) ⟨_, rfl, b, L, m, o, rfl, hb, ho, ?_⟩⟩
    refine ⟨fun n σ H' => ∃ (k : Nat) (o' : O) (m' : B) (L' : Ls), n = far o' m' ∧ σ = [some (.ref b), some (rf o'), some (optV (bestFor m' o'))] ∧ Post A b (fun x => Ft b L m x ∨ x = o.adr) H L m H' L' m' ∧ OrdAt A H' o' ∧ Gd [o'] m' ∧ far o' m' ≤ k ∧
        tradeAll k o' m' = tradeAll (m.rs.length + 1) o m ∧ o'.adr = o.adr ∧ m'.rs.length + m'.ws.length ≤ 2000, ⟨_, m.rs.length + 1, o, m, L, rfl, rfl, Post.refl hb, ho, g, ?_, rfl, rfl, hl⟩, ?_⟩
    · unfold far
      split <;> omega
    rintro n σ H' ⟨k, o', m', L', rfl, rfl, P1, ho', g', hk, eq, ea, hl'⟩
    have stop : (o'.s.amount = 0 ∨ bestFor m' o' = none) → Q .non H' := fun z => by
      rw [tradeAll_stop z] at eq
      rw [← eq] at q
      refine q H' L' P1 ho' ?_
      rw [← ea]
      exact P1.at_.apart ho' (g'.adrs_q List.mem_cons_self).1 (g'.adrs_q List.mem_cons_self).2
    refine ⟨_, rfl, rdO T ho' T.n_amount (ol_amount _ _ _ _ _ _ _) ⟨_, _, rfl, rfl, _, rfl, ?_⟩⟩
    refine ifb (fun c => ?_) (fun c => iteF (stop (.inl (by have := of_decide_eq_false c; omega))))
    refine ⟨_, rfl, rfl, _, rfl, ?_⟩
    rw [opt_non]
    cases e : bestFor m' o' with
    | none => exact iteF (stop (.inr e))
    | some r =>
      refine iteT ⟨fun σ' H2 => ∃ n', n' < far o' m' ∧ ∃ (k : Nat) (o2 : O) (m2 : B) (L2 : Ls), n' = far o2 m2 ∧ σ' = [some (.ref b), some (rf o2), some (optV (bestFor m2 o2))] ∧ Post A b (fun x => Ft b L m x ∨ x = o.adr) H L m H2 L2 m2 ∧ OrdAt A H2 o2 ∧ Gd [o2] m2 ∧ far o2 m2 ≤ k ∧
        tradeAll k o2 m2 = tradeAll (m.rs.length + 1) o m ∧ o2.adr = o.adr ∧ m2.rs.length + m2.ws.length ≤ 2000, fun σ' H2 z => z, ?_⟩
      have c0 : ¬ o'.s.amount = 0 := by have := of_decide_eq_true c; omega
      have hr1 := (bestFor_mem e).1
      have M := meet_met g' hr1
      have F := meet_far g' hr1 c0
      obtain ⟨k', rfl⟩ : ∃ k', k = k' + 1 := ⟨k - 1, by omega⟩
      rw [tradeAll_go c0 e] at eq
      have hev : m'.ev.length < sizeLine := by
        rw [← eq] at he
        obtain ⟨evs, w1⟩ := (tradeAll_met k' [] _ _ M.gd).ev
        rw [w1, List.length_append, meet_ev] at he
        omega
      refine ⟨_, rfl, mtB P1.at_ (by decide +kernel) ⟨_, rfl, _, rfl, ?_⟩⟩
      refine ⟨b, L', m', o', r, rfl, P1.at_, ho', hr1, (g'.adrs_q List.mem_cons_self).1, (g'.adrs_q List.mem_cons_self).2, hl', hev, fun H2 L2 P2 ho2 nF2 => ?_⟩
      refine ⟨_, rfl, mtB P2.at_ (by decide +kernel) ⟨_, rfl, ?_⟩⟩
      refine ⟨b, L2, _, (meet m' o' r).1, ?_, P2.at_, ho2, ?_⟩
      · exact congrArg (fun z => [V.ref b, V.ref z]) (meet_adr m' o' r).symm
      · refine ⟨_, F, k', (meet m' o' r).1, (meet m' o' r).2, L2, rfl, ?_, ?_, ho2, M.gd, by omega, eq, (meet_adr m' o' r).trans ea, ?_⟩
        · have z : rf o' = rf (meet m' o' r).1 := congrArg V.ref (meet_adr m' o' r).symm
          rw [← z]
          rfl
        · refine P1.trans P2 (fun x z => .inl z) (fun x z => ?_)
          rcases z with z | z
          · rcases P1.sub x z with z | z | z
            · exact .inl (.inl z)
            · exact .inl z
            · exact .inr z
          · exact .inl (.inr (z.trans ea))
        · have := M.len
          rw [M.ws]
          omega
end
end SB

/-! ## others_amount -/
namespace SB
open PySem PySem.Spec PyProof.Rows L2
def sp_others_amount (K : PySem.W.Frag) (A : Ad) : Sp := fun vs H Q _ => ∃ (b : Addr) (L : Ls) (m : B) (o : O), vs = [.ref b, rf o] ∧ BookAt A H b L m ∧ OrdAt A H o ∧ Q (nV (others m o)) H
section
variable {P : Program} {w : World} {K : PySem.W.Frag} {mg : Str → Option Value} {base : Heap} {A : Ad}
theorem ok_others_amount (T : All K mg A) : FnOk P w K mg base CX0 3 A.f_others_amount A.fd_others_amount ["self", "order"] (sp_others_amount K A) := by
  refine T.F_others_amount.ok sc_others_amount (fun vs H Q E h => ?_) (fun cdv A' outer s H vs Q E hr h => ?_)
  · obtain ⟨b, L, m, o, rfl, hb, ho, q⟩ := h
    rfl
  · obtain ⟨b, L, m, o, rfl, hb, ho, q⟩ := h
    refine ⟨_, (pss_cons (ps_set (i := 2) sc_others_amount.nd rfl (Or.inl rfl) pe_int)
      (pss_cons (ps_for PassesOwn.never rfl (pi_list (pe_fld (pv 0) rfl)) (pg_name (i := 3) sc_others_amount.nd rfl (Or.inl rfl)) (pss_one (ps_if (PW.pt (pw_and (pt_cmpR op_ne (pe_fld (pv 3) rfl) (pe_fld (pv 1) rfl) (nomark _)) (pw_and (pt_cmpR op_ne (pe_fld (pv 3) rfl) (pe_fld (pv 1) rfl) (nomark _)) (pw_and1 (pt_val (pe_meth (pv 1) T.c_Order T.m_accepts (ok_accepts T) (hr.mono (by decide)) T.b_accepts .nil pass0 (pa_cons (pe_fld (pv 3) rfl) pa_nil))))))) (pss_one (ps_aug (i := 2) sc_others_amount.nd rfl (Or.inl rfl) (pe_fld (pv 3) rfl) ip_add)) pss_nil)))
      (pss_one (ps_ret (pv 2))))), ?_⟩
    have sum_up : ∀ (l : List O) (p : O → Bool) (x : O), (((l ++ [x]).filter p).map fun r => r.s.amount).sum = ((l.filter p).map fun r => r.s.amount).sum + (if p x = true then x.s.amount else 0) := fun l p x => by
      rw [List.filter_append, List.map_append, List.sum_append, List.filter_cons]
      cases p x <;> simp
    let p : O → Bool := fun r => r.s.buy != o.s.buy && (r.s.who != o.s.who && o.accepts r.s.price)
    refine ⟨_, rfl, rdB T hb T.n_resting (bf_resting _ _ _ _ _) ⟨L.lr, rfl, ⟨_, SqL.of hb.r⟩, for_list (K := K) (a := L.lr) (xs := m.rs.map rf) (fun i σ H' => ∃ u : Option V, σ = [some (.ref b), some (rf o), some (nV (((m.rs.take i).filter p).map fun r => r.s.amount).sum), u] ∧ H' = H)
      ⟨none, rfl, rfl⟩ (fun i σ H' _ pv => ?_) ?_ ?_⟩⟩
    · obtain ⟨u, _, rfl⟩ := pv
      exact SqL.of hb.r
    · rintro i y σ H' hi ⟨u, rfl, rfl⟩
      obtain ⟨r, hr1, rfl⟩ := at_map hi
      have hm := List.mem_of_getElem? hr1
      have hor := hb.os r (.inl hm)
      have e2 := sum_up (m.rs.take i) p r
      rw [← take_up hr1] at e2
      generalize (((m.rs.take i).filter p).map fun r => r.s.amount).sum = n at e2 ⊢
      have skip : p r = false → ((((m.rs.take (i + 1)).filter p).map fun r => r.s.amount).sum) = n := fun z => by rw [e2, z]; rfl
      refine ⟨_, rfl, rdO T hor T.n_side (ol_side _ _ _ _ _ _ _) ⟨_, rfl, rdO T ho T.n_side (ol_side _ _ _ _ _ _ _) ⟨rfl, _, rfl, ?_⟩⟩⟩
      rw [dI, sI_eq]
      refine ifb (fun c => ?_) (fun c => iteF ⟨some (rf r), ?_, rfl⟩)
      · refine ⟨_, rfl, rdO T hor T.n_owner (ol_owner _ _ _ _ _ _ _) ⟨_, rfl, rdO T ho T.n_owner (ol_owner _ _ _ _ _ _ _) ⟨rfl, _, rfl, ?_⟩⟩⟩
        rw [dI, nat_eq]
        refine ifb (fun c2 => ?_) (fun c2 => iteF ⟨some (rf r), ?_, rfl⟩)
        · refine ⟨_, rfl, mtO ho (by decide +kernel) ⟨_, rfl, rdO T hor T.n_price (ol_price _ _ _ _ _ _ _) ⟨o, r.s.price, rfl, ho, _, rfl, ?_⟩⟩⟩
          have c2' : (r.s.who != o.s.who) = true := by
            have := of_decide_eq_false (not_t c2)
            simp [bne, this]
          have pe : p r = o.accepts r.s.price := by
            show (r.s.buy != o.s.buy && (r.s.who != o.s.who && o.accepts r.s.price)) = _
            rw [c2', show (r.s.buy != o.s.buy) = true from c]
            rfl
          refine ifb (fun c3 => ?_) (fun c3 => ⟨some (rf r), ?_, rfl⟩)
          · refine ⟨_, rfl, _, rfl, rdO T hor T.n_amount (ol_amount _ _ _ _ _ _ _) ⟨_, _, rfl, rfl, some (rf r), ?_, rfl⟩⟩
            rw [e2, pe, c3, if_pos rfl]
            rfl
          · rw [skip (pe.trans c3)]
            rfl
        · have c2' : (r.s.who != o.s.who) = false := by
            have := of_decide_eq_true (not_f c2)
            simp [bne, this]
          rw [skip (by
            show (r.s.buy != o.s.buy && (r.s.who != o.s.who && o.accepts r.s.price)) = false
            rw [c2']
            simp)]
          rfl
      · rw [skip (by
          show (r.s.buy != o.s.buy && (r.s.who != o.s.who && o.accepts r.s.price)) = false
          rw [show (r.s.buy != o.s.buy) = false from c]
          rfl)]
        rfl
    · rintro σ H' ⟨u, rfl, rfl⟩
      rw [List.length_map, List.take_length]
      exact ⟨_, rfl, q⟩
end
end SB

/-! ## leave -/
namespace SB
open PySem PySem.Spec PyProof.Rows L2
def sp_leave (K : PySem.W.Frag) (A : Ad) : Sp := fun vs H Q _ => ∃ (b : Addr) (L : Ls) (m : B) (o : O), vs = [.ref b, rf o] ∧ BookAt A H b L m ∧ OrdAt A H o ∧ m.rs.length < 3000 ∧ m.ev.length < sizeLine ∧
  ∀ H' : Hp, Post A b (fun x => x = L.lr ∨ x = L.le ∨ x = o.adr) H L m H' L (leave m o) → Q .non H'
section
variable {P : Program} {w : World} {K : PySem.W.Frag} {mg : Str → Option Value} {base : Heap} {A : Ad}
theorem ok_leave (T : All K mg A) : FnOk P w K mg base CX0 3 A.f_leave A.fd_leave ["self", "order"] (sp_leave K A) := by
  refine T.F_leave.ok sc_leave (fun vs H Q E h => ?_) (fun cdv A' outer s H vs Q E hr h => ?_)
  · obtain ⟨b, L, m, o, rfl, hb, ho, hl, he, q⟩ := h
    rfl
  · obtain ⟨b, L, m, o, rfl, hb, ho, hl, he, q⟩ := h
    refine ⟨_, (pss_one (ps_if (PW.pt (pw_or (pt_cmpR op_eq (pe_fld (pv 1) rfl) (pe_glob (v := .int (0)) (by rfl) (T.g_LIMIT).choose_spec ⟨_, rfl⟩) (nomark _)) (pw_or (pt_cmpR op_eq (pe_fld (pv 1) rfl) (pe_glob (v := .int (4)) (by rfl) (T.g_ONLY_REST).choose_spec ⟨_, rfl⟩) (nomark _)) (pw_or1 (pt_cmpR op_eq (pe_fld (pv 1) rfl) (pe_glob (v := .int (6)) (by rfl) (T.g_STOP_LIMIT).choose_spec ⟨_, rfl⟩) (nomark _)))))) (pss_one (ps_expr (pe_meth (pv 0) T.c_Book T.m_rest (ok_rest T) (hr.mono (by decide)) T.b_rest .nil pass0 (pa_cons (pv 1) pa_nil)))) (pss_one (ps_expr (pe_meth (pv 0) T.c_Book T.m_end (ok_end T) (hr.mono (by decide)) T.b_end .nil pass0 (pa_cons (pv 1) (pa_cons (pe_glob (v := .int (2)) (by rfl) (T.g_NOT_TRADED).choose_spec ⟨_, rfl⟩) pa_nil))))))), ?_⟩
    have go1 : (o.k = 0 ∨ o.k = 4 ∨ o.k = 6) → sp_rest K A [.ref b, rf o] H (fun _ H1 => Q .non H1) E0 := fun c => by
      refine ⟨b, L, m, o, rfl, hb, ho, hl, he, fun H' P1 => q H' ?_⟩
      unfold SB.leave
      rw [if_pos c]
      exact P1
    refine ⟨_, rfl, rdO T ho T.n_kind (ol_kind _ _ _ _ _ _ _) ⟨rfl, _, rfl, ?_⟩⟩
    rw [dI]
    refine ifb (fun c => iteT ?_) (fun c => ?_)
    · exact ⟨_, rfl, mtB hb (by decide +kernel) ⟨_, rfl, go1 (.inl (of_decide_eq_true c))⟩⟩
    · refine ⟨_, rfl, rdO T ho T.n_kind (ol_kind _ _ _ _ _ _ _) ⟨rfl, _, rfl, ?_⟩⟩
      rw [dI]
      refine ifb (fun c2 => iteT ?_) (fun c2 => ?_)
      · exact ⟨_, rfl, mtB hb (by decide +kernel) ⟨_, rfl, go1 (.inr (.inl (of_decide_eq_true c2)))⟩⟩
      · refine ⟨_, rfl, rdO T ho T.n_kind (ol_kind _ _ _ _ _ _ _) ⟨rfl, _, rfl, ?_⟩⟩
        rw [dI]
        refine ifb (fun c3 => ?_) (fun c3 => ?_)
        · exact ⟨_, rfl, mtB hb (by decide +kernel) ⟨_, rfl, go1 (.inr (.inr (of_decide_eq_true c3)))⟩⟩
        · refine ⟨_, rfl, mtB hb (by decide +kernel) ⟨_, rfl, b, L, m, o, 2, rfl, hb, ho, he, fun H' P1 => q H' ?_⟩⟩
          unfold SB.leave
          rw [if_neg fun z => z.elim (of_decide_eq_false c) fun z => z.elim (of_decide_eq_false c2) (of_decide_eq_false c3)]
          exact P1.mono fun x z => .inl (.inr (.inl z))
end
end SB

/-! ## come -/
namespace SB
open PySem PySem.Spec PyProof.Rows L2
def sp_come (K : PySem.W.Frag) (A : Ad) : Sp := fun vs H Q _ => ∃ (b : Addr) (L : Ls) (m : B) (o : O), vs = [.ref b, rf o] ∧ BookAt A H b L m ∧ OrdAt A H o ∧ Gd [o] m ∧ m.rs.length + m.ws.length ≤ 2000 ∧ (come m o).ev.length ≤ sizeLine ∧
  ∀ (H' : Hp) (L' : Ls), Post A b (fun x => Ft b L m x ∨ x = o.adr) H L m H' L' (come m o) → Q .non H'
section
variable {P : Program} {w : World} {K : PySem.W.Frag} {mg : Str → Option Value} {base : Heap} {A : Ad}
theorem ok_come (T : All K mg A) : FnOk P w K mg base CX0 5 A.f_come A.fd_come ["self", "order"] (sp_come K A) := by
  refine T.F_come.ok sc_come (fun vs H Q E h => ?_) (fun cdv A' outer s H vs Q E hr h => ?_)
  · obtain ⟨b, L, m, o, rfl, hb, ho, g, hl, he, q⟩ := h
    rfl
  · obtain ⟨b, L, m, o, rfl, hb, ho, g, hl, he, q⟩ := h
    refine ⟨_, (pss_one (ps_if (PW.pt (pw_and (pt_cmpR op_eq (pe_fld (pv 1) rfl) (pe_glob (v := .int (3)) (by rfl) (T.g_ALL_AT_ONCE).choose_spec ⟨_, rfl⟩) (nomark _)) (pw_and1 (pt_cmpR op_lt (pe_meth (pv 0) T.c_Book T.m_others_amount (ok_others_amount T) (hr.mono (by decide)) T.b_others_amount .nil pass0 (pa_cons (pv 1) pa_nil)) (pe_fld (pv 1) rfl) (nomark _))))) (pss_one (ps_expr (pe_meth (pv 0) T.c_Book T.m_end (ok_end T) (hr.mono (by decide)) T.b_end .nil pass0 (pa_cons (pv 1) (pa_cons (pe_glob (v := .int (3)) (by rfl) (T.g_NOT_ALL).choose_spec ⟨_, rfl⟩) pa_nil))))) (pss_one (ps_if (PW.pt (pw_and (pt_cmpR op_eq (pe_fld (pv 1) rfl) (pe_glob (v := .int (4)) (by rfl) (T.g_ONLY_REST).choose_spec ⟨_, rfl⟩) (nomark _)) (pw_and1 (pt_cmpR op_notN (pe_meth (pv 0) T.c_Book T.m_best_for (ok_best_for T) (hr.mono (by decide)) T.b_best_for .nil pass0 (pa_cons (pv 1) pa_nil)) pe_non (nomark _))))) (pss_one (ps_expr (pe_meth (pv 0) T.c_Book T.m_end (ok_end T) (hr.mono (by decide)) T.b_end .nil pass0 (pa_cons (pv 1) (pa_cons (pe_glob (v := .int (4)) (by rfl) (T.g_WOULD_TRADE).choose_spec ⟨_, rfl⟩) pa_nil))))) (pss_cons (ps_expr (pe_meth (pv 0) T.c_Book T.m_trade_all (ok_trade_all T) (hr.mono (by decide)) T.b_trade_all .nil pass0 (pa_cons (pv 1) pa_nil)))
      (pss_one (ps_if (pt_cmpR op_gt (pe_fld (pv 1) rfl) pe_int (nomark _)) (pss_one (ps_expr (pe_meth (pv 0) T.c_Book T.m_leave (ok_leave T) (hr.mono (by decide)) T.b_leave .nil pass0 (pa_cons (pv 1) pa_nil)))) pss_nil))))))), ?_⟩
    have nF : ¬ Ft b L m o.adr := hb.apart ho (g.adrs_q List.mem_cons_self).1 (g.adrs_q List.mem_cons_self).2
    have ends : ∀ why : Nat, come m o = m.fin o why → sp_end K A [.ref b, rf o, nV why] H (fun _ H1 => Q .non H1) E0 := fun why e => by
      rw [e] at he q
      refine ⟨b, L, m, o, why, rfl, hb, ho, ?_, fun H' P1 => q H' L (P1.mono fun x z => .inl (.inl (.inr (.inr (.inr (.inl z))))))⟩
      have h2 : (m.ev ++ [Sd17.Ev.ended o.s.id why o.s.price o.s.amount]).length ≤ sizeLine := he
      rw [List.length_append] at h2
      exact h2
    have rest : ¬ (o.k = 3 ∧ others m o < o.s.amount) → ¬ (o.k = 4 ∧ (bestFor m o).isSome = true) → sp_trade_all K A [.ref b, rf o] H (fun _ H1 => tIfS (tTest (tOp (rI0 fun i j => V.bl (decide (j < i))) (tFld K (tVar 1) "amount") (tC (V.int 0)))) (tDrop (tMeth A.cB "leave" (sp_leave K A) [] E0 (tVar 0) (tCons (tVar 1) tNil))) tNext { nx := fun _ H' => Q .non H', rt := Q } [some (.ref b), some (rf o)] H1) E0 := fun c1 c2 => by
      have ec : come m o = leaves (tradeAll (m.rs.length + 1) o m) := by
        unfold SB.come
        rw [if_neg c1, if_neg c2]
      rw [ec] at he q
      have M := tradeAll_met (m.rs.length + 1) [] o m g
      refine ⟨b, L, m, o, rfl, hb, ho, g, hl, ?_, fun H1 L1 P1 ho1 nF1 => ?_⟩
      · generalize tradeAll (m.rs.length + 1) o m = x at he ⊢
        unfold leaves at he
        split at he
        · exact he
        · rw [leave_ev] at he
          omega
      · obtain ⟨n, a, _⟩ := M.am
        generalize tradeAll (m.rs.length + 1) o m = x at he q M P1 ho1 nF1 a ⊢
        have ex : rf o = rf x.1 := congrArg V.ref (by rw [a]; rfl)
        have ea : x.1.adr = o.adr := by rw [a]; rfl
        rw [ex]
        refine ⟨_, rfl, rdO T ho1 T.n_amount (ol_amount _ _ _ _ _ _ _) ⟨_, _, rfl, rfl, _, rfl, ?_⟩⟩
        unfold leaves at q he
        refine ifb (fun c => ?_) (fun c => ?_)
        · have c0 : ¬ x.1.s.amount = 0 := by have := of_decide_eq_true c; omega
          rw [if_neg c0] at q he
          rw [leave_ev] at he
          refine ⟨_, rfl, mtB P1.at_ (by decide +kernel) ⟨_, rfl, ?_⟩⟩
          refine ⟨b, L1, x.2, x.1, rfl, P1.at_, ho1, by have := M.len; omega, by omega, fun H2 P2 => q H2 L1 ?_⟩
          refine P1.trans P2 (fun y z => .inl z) (fun y z => ?_)
          have back : Ft b L1 x.2 y → (Ft b L m y ∨ y = o.adr) ∨ H y = none := fun z => by
            rcases P1.sub y z with z | z | z
            · exact .inl (.inl z)
            · exact .inl z
            · exact .inr z
          rcases z with z | z | z
          · exact back (.inr (.inl z))
          · exact back (.inr (.inr (.inr (.inl z))))
          · exact .inl (.inr (z.trans ea))
        · have c0 : x.1.s.amount = 0 := by have := of_decide_eq_false c; omega
          rw [if_pos c0] at q
          exact q H1 L1 P1
    have second : ¬ (o.k = 3 ∧ others m o < o.s.amount) → tIfS (tAnd (tTest (tOp rEq (tFld K (tVar 1) "kind") (tC (V.int 4)))) (tTest (tOp (fun x y H Q => y = .non ∧ Q (.bl (!decide (x = .non))) H) (tMeth A.cB "best_for" (sp_best_for K A) [] E0 (tVar 0) (tCons (tVar 1) tNil)) (tC .non))))
        (tDrop (tMeth A.cB "end" (sp_end K A) [] E0 (tVar 0) (tCons (tVar 1) (tCons (tC (V.int 4)) tNil))))
        (tSeq (tDrop (tMeth A.cB "trade_all" (sp_trade_all K A) [] E0 (tVar 0) (tCons (tVar 1) tNil))) (tIfS (tTest (tOp (rI0 fun i j => V.bl (decide (j < i))) (tFld K (tVar 1) "amount") (tC (V.int 0)))) (tDrop (tMeth A.cB "leave" (sp_leave K A) [] E0 (tVar 0) (tCons (tVar 1) tNil))) tNext))
        { nx := fun _ H' => Q .non H', rt := Q } [some (.ref b), some (rf o)] H := fun c1 => by
      refine ⟨_, rfl, rdO T ho T.n_kind (ol_kind _ _ _ _ _ _ _) ⟨rfl, _, rfl, ?_⟩⟩
      rw [dI]
      refine ifb (fun c => ?_) (fun c => iteF ?_)
      · refine ⟨_, rfl, mtB hb (by decide +kernel) ⟨_, rfl, b, L, m, o, rfl, hb, ho, rfl, _, rfl, ?_⟩⟩
        rw [opt_non]
        refine ifb (fun d => ?_) (fun d => ?_)
        · have d' : (bestFor m o).isSome = true := by
            cases h : bestFor m o with
            | none => rw [h] at d; cases d
            | some r => rfl
          refine ⟨_, rfl, mtB hb (by decide +kernel) ⟨_, rfl, ends 4 ?_⟩⟩
          unfold SB.come
          rw [if_neg c1, if_pos ⟨of_decide_eq_true c, d'⟩]
        · have d' : ¬ (o.k = 4 ∧ (bestFor m o).isSome = true) := fun z => by
            cases h : bestFor m o with
            | none => rw [h] at z; cases z.2
            | some r => rw [h] at d; cases d
          exact ⟨_, rfl, mtB hb (by decide +kernel) ⟨_, rfl, rest c1 d'⟩⟩
      · exact ⟨_, rfl, mtB hb (by decide +kernel) ⟨_, rfl, rest c1 fun z => of_decide_eq_false c z.1⟩⟩
    refine ⟨_, rfl, rdO T ho T.n_kind (ol_kind _ _ _ _ _ _ _) ⟨rfl, _, rfl, ?_⟩⟩
    rw [dI]
    refine ifb (fun c => ?_) (fun c => iteF (second fun z => of_decide_eq_false c z.1))
    refine ⟨_, rfl, mtB hb (by decide +kernel) ⟨_, rfl, b, L, m, o, rfl, hb, ho, _, rfl, rdO T ho T.n_amount (ol_amount _ _ _ _ _ _ _) ⟨_, _, rfl, rfl, _, rfl, ?_⟩⟩⟩
    rw [nat_lt]
    refine ifb (fun d => ?_) (fun d => second fun z => of_decide_eq_false d z.2)
    refine ⟨_, rfl, mtB hb (by decide +kernel) ⟨_, rfl, ends 3 ?_⟩⟩
    unfold SB.come
    rw [if_pos ⟨of_decide_eq_true c, of_decide_eq_true d⟩]
end
end SB

/-! ## triggered -/
namespace SB
open PySem PySem.Spec PyProof.Rows L2
def sp_triggered (K : PySem.W.Frag) (A : Ad) : Sp := fun vs H Q _ => ∃ (b : Addr) (L : Ls) (m : B), vs = [.ref b] ∧ BookAt A H b L m ∧ m.rs.length + m.ws.length ≤ 2000 ∧ (fired m).ev.length ≤ sizeLine ∧
  ∀ (H' : Hp) (L' : Ls) (l : Addr), Post A b (fun x => x = b ∨ x = L.le) H L m H' L' (fired m) → H l = none → H' l = some (.lst ((trig m).map rf)) → ¬ Ft b L' (fired m) l → Q (.ref l) H'
section
variable {P : Program} {w : World} {K : PySem.W.Frag} {mg : Str → Option Value} {base : Heap} {A : Ad}
theorem ok_triggered (T : All K mg A) : FnOk P w K mg base CX0 2 A.f_triggered A.fd_triggered ["self"] (sp_triggered K A) := by
  refine T.F_triggered.ok sc_triggered (fun vs H Q E h => ?_) (fun cdv A' outer s H vs Q E hr h => ?_)
  · obtain ⟨b, L, m, rfl, hb, hl, he, q⟩ := h
    rfl
  · obtain ⟨b, L, m, rfl, hb, hl, he, q⟩ := h
    refine ⟨_, (pss_cons (ps_if (pt_cmpR op_eq (pe_fld (pv 0) rfl) pe_int (nomark _)) (pss_one (ps_ret (pe_lst pa_nil))) pss_nil)
      (pss_cons (ps_setLc (i := 2) (own := [("order", 1)]) (g := gName 1) (tt := tB (tMeth A.cO "is_triggered" (sp_is_triggered K A) [] E0 (tVar 1) (tCons (tFld K (tVar 0) "latest") tNil))) (te := tVar 1) rfl sc_triggered.nd rfl rfl (sw_true rfl rfl rfl (by decide +kernel)) (pi_list (pe_fld (pv 0) rfl)) (blkOk_by (own := [("order", 1)]) (N := N_triggered) (sc := defScope s_triggered) (by decide +kernel)) (fun _ _ _ _ _ => pg_name (i := 1) sc_triggered.nd rfl (Or.inl rfl)) (fun _ _ _ _ _ => pts_one (pt_val (pe_meth (pv 1) T.c_Order T.m_is_triggered (ok_is_triggered T) (hr.mono (by decide)) T.b_is_triggered .nil pass0 (pa_cons (pe_fld (pv 0) rfl) pa_nil)))) (fun _ _ _ _ _ => (pv 1)))
      (pss_cons (ps_for PassesOwn.never rfl (pi_list (pv 2)) (pg_name (i := 1) sc_triggered.nd rfl (Or.inl rfl)) (pss_cons (ps_expr (pe_meth (pv 0) T.c_Book T.m_take_out (ok_take_out T) (hr.mono (by decide)) T.b_take_out .nil pass0 (pa_cons (pe_fld (pv 1) rfl) pa_nil)))
      (pss_one (ps_expr (pe_meth (pv 0) T.c_Book T.m_tell (ok_tell T) (hr.mono (by decide)) T.b_tell .nil pass0 (pa_cons (pe_glob (v := .int (4)) (by rfl) (T.g_TRIGGERED).choose_spec ⟨_, rfl⟩) (pa_cons (pe_fld (pv 1) rfl) (pa_cons pe_int (pa_cons (pe_fld (pv 0) rfl) (pa_cons pe_int (pa_cons pe_int pa_nil)))))))))))
      (pss_one (ps_ret (pv 2)))))), ?_⟩
    refine ⟨_, rfl, rdB T hb T.n_latest (bf_latest _ _ _ _ _) ⟨rfl, _, rfl, ?_⟩⟩
    rw [dI]
    refine ifb (fun c => ?_) (fun c => ?_)
    · have c0 : m.lat = 0 := by have := of_decide_eq_true c; omega
      have et : trig m = [] := by unfold trig; rw [if_pos c0]
      have ef : fired m = m := by unfold fired; rw [et]; rfl
      rw [et, ef] at q
      refine ⟨Nat.zero_le _, fun p hp => q _ L p ?_ hp upd_same ?_⟩
      · exact Post.same (upd_same_of hp) hb (fun x z => upd_live z) (hb.same (upd_same_of hp))
      · exact hb.new hp
    · have c0 : ¬ m.lat = 0 := by have := of_decide_eq_false c; omega
      have et : trig m = m.ws.filter fun o => o.pulled m.lat := by unfold trig; rw [if_neg c0]
      refine ⟨_, rfl, rdB T hb T.n_waiting (bf_waiting _ _ _ _ _) ⟨L.lw, rfl, ⟨_, SqL.of hb.w⟩, fun D hD => lc_list (K := K) (a := L.lw) (xs := m.ws.map rf) (fun i H' => Same H H' ∧ (∀ x, H' x = none → H x = none) ∧ H' D = some (.lst (((m.ws.take i).filter fun o => o.pulled m.lat).map rf)))
        ⟨upd_same_of hD, fun x z => upd_live z, upd_same⟩ (fun i H' _ p => SqL.of (p.1 _ _ hb.w)) ?_ ?_⟩⟩
      · rintro i y H' hi ⟨s1, l1, e1⟩
        obtain ⟨o, ho1, rfl⟩ := at_map hi
        have hm := List.mem_of_getElem? ho1
        have hor := (hb.os o (.inr hm)).same s1
        refine ⟨rfl, _, rfl, mtO hor (by decide +kernel) ⟨_, rfl, rdB T (hb.same s1) T.n_latest (bf_latest _ _ _ _ _) ⟨o, m.lat, rfl, hor, _, rfl, ?_⟩⟩⟩
        have e2 : (m.ws.take (i + 1)).filter (fun o => o.pulled m.lat) = (m.ws.take i).filter (fun o => o.pulled m.lat) ++ [o].filter (fun o => o.pulled m.lat) := by
          rw [take_up ho1]
          exact List.filter_append ..
        refine ifb (fun c => ⟨_, rfl, _, e1, ?_, ?_, ?_, ?_⟩) (fun c => ⟨s1, l1, ?_⟩)
        · rw [List.length_map]
          exact Nat.lt_of_le_of_lt (Nat.le_trans (List.length_filter_le _ _) (Nat.le_trans (List.take_sublist _ _).length_le (Nat.le_trans (Nat.le_add_left _ _) hl))) (by decide)
        · intro x u e
          rw [upd_ne (ne_of_none e hD)]
          exact s1 x u e
        · exact fun x z => l1 x (upd_live z)
        · rw [upd_same, e2, List.map_append, List.filter_cons, if_pos c]
          rfl
        · rw [e1, e2, List.filter_cons, if_neg (by rw [c]; decide), List.filter_nil, List.append_nil]
      · rintro H1 ⟨s1, l1, e1⟩
        rw [List.length_map, List.take_length, ← et] at e1
        have hb1 := hb.same s1
        have nFD : ¬ Ft b L m D := hb.new hD
        have hDb : D ≠ b := fun z => nFD (.inl z)
        have hDe : D ≠ L.le := fun z => nFD (.inr (.inr (.inr (.inl z))))
        have hev : ∀ i : Nat, i < (trig m).length → (((trig m).take i).foldl fire m).ev.length < sizeLine := fun i lt => by
          have a := (fires_len ((trig m).take i) m).1
          have b := (fires_len (trig m) m).1
          have c : (fired m).ev.length = m.ev.length + (trig m).length := b
          rw [List.length_take] at a
          omega
        refine ⟨_, rfl, D, rfl, ⟨_, SqL.of e1⟩, for_list (K := K) (a := D) (xs := (trig m).map rf) (fun i σ H' => ∃ (u : Option V) (L' : Ls), σ = [some (.ref b), u, some (.ref D)] ∧ L'.le = L.le ∧ Post A b (fun x => x = b ∨ x = L.le) H1 L m H' L' (((trig m).take i).foldl fire m))
          ⟨_, L, rfl, rfl, Post.refl hb1⟩ (fun i σ H' _ p => ?_) ?_ ?_⟩
        · obtain ⟨u, L', _, _, P⟩ := p
          exact SqL.of (P.fr _ _ e1 fun z => z.elim hDb hDe)
        · rintro i y σ H' hi ⟨u, L', rfl, eL, P⟩
          obtain ⟨o, ho1, rfl⟩ := at_map hi
          have lt : i < (trig m).length := (List.getElem?_eq_some_iff.mp ho1).1
          have hor0 := hb1.os o (.inr (trig_ws (List.mem_of_getElem? ho1)))
          have hor := P.ord hor0 fun z => z.elim (hor0.ne_book hb1) (hb1.ord_e hor0)
          have FL := fires_len ((trig m).take i) m
          have he1 := hev i lt
          have e2 : ((trig m).take (i + 1)).foldl fire m = fire (((trig m).take i).foldl fire m) o := by
            rw [take_up ho1, List.foldl_append]
            rfl
          rw [e2]
          generalize ((trig m).take i).foldl fire m = mi at P FL he1 ⊢
          refine ⟨_, rfl, mtB P.at_ (by decide +kernel) ⟨_, rfl, rdO T hor T.n_number (ol_number _ _ _ _ _ _ _) ?_⟩⟩
          refine ⟨b, L', mi, o.s.id, rfl, P.at_, by omega, fun H2 L2 eL2 P2 => ?_⟩
          have hor2 := P2.ord hor (hor.ne_book P.at_)
          refine ⟨_, rfl, mtB P2.at_ (by decide +kernel) ?_⟩
          refine ⟨_, rfl, rdO T hor2 T.n_number (ol_number _ _ _ _ _ _ _) ⟨_, rfl, rdB T P2.at_ T.n_latest (bf_latest _ _ _ _ _) ?_⟩⟩
          refine ⟨b, 4, o.s.id, 0, mi.lat, 0, 0, L2, mi.takeOut o.s.id, .triggered o.s.id mi.lat, rfl, rfl, P2.at_, he1, fun H3 P3 => ?_⟩
          refine ⟨_, L2, rfl, eL2.trans eL, ?_⟩
          exact (P.trans P2 (fun x z => .inl z) (fun x z => .inl (.inl z))).trans P3 (fun x z => .inl z) (fun x z => .inl (.inr (z.trans (eL2.trans eL))))
        · rintro σ H' ⟨u, L', rfl, eL, P⟩
          rw [List.length_map, List.take_length] at P
          have nX : ¬ (D = b ∨ D = L.le) := fun z => z.elim hDb hDe
          refine ⟨_, rfl, q H' L' D ?_ hD (P.fr _ _ e1 nX) (P.ft e1 nFD nX)⟩
          exact (Post.same s1 hb l1 hb1).trans (X := fun _ => False) P (fun x z => z.elim) (fun x z => .inl z)
end
end SB

/-! ## trigger_all -/
namespace SB
open PySem PySem.Spec PyProof.Rows L2
def sp_trigger_all (K : PySem.W.Frag) (A : Ad) : Sp := fun vs H Q _ => ∃ (b : Addr) (L : Ls) (m : B), vs = [.ref b] ∧ BookAt A H b L m ∧ Gd [] m ∧ m.rs.length + m.ws.length ≤ 2000 ∧ (trigAll m).ev.length ≤ sizeLine ∧
  ∀ (H' : Hp) (L' : Ls), Post A b (fun x => Ft b L m x) H L m H' L' (trigAll m) → Q .non H'
section
variable {P : Program} {w : World} {K : PySem.W.Frag} {mg : Str → Option Value} {base : Heap} {A : Ad}
theorem ok_trigger_all (T : All K mg A) : FnOk P w K mg base CX0 6 A.f_trigger_all A.fd_trigger_all ["self"] (sp_trigger_all K A) := by
  refine T.F_trigger_all.ok sc_trigger_all (fun vs H Q E h => ?_) (fun cdv A' outer s H vs Q E hr h => ?_)
  · obtain ⟨b, L, m, rfl, hb, g, hl, he, q⟩ := h
    rfl
  · obtain ⟨b, L, m, rfl, hb, g, hl, he, q⟩ := h
    refine ⟨_, (pss_cons (ps_set (i := 1) sc_trigger_all.nd rfl (Or.inl rfl) (pe_meth0 (pv 0) T.c_Book T.m_triggered (ok_triggered T) (hr.mono (by decide)) T.b_triggered .nil pass0))
      (pss_one (ps_while PassesOwn.never (pt_cmpR (SBO.op_neE (Nat.lt_of_succ_lt (hu_of hr))) (pv 1) (pe_lst pa_nil) (nomark _)) (pss_cons (ps_expr (pe_meth (pv 0) T.c_Book T.m_come (ok_come T) (hr.mono (by decide)) T.b_come .nil pass0 (pa_cons (pe_ix ix_list (pv 1) pe_int (fun _ _ => rfl)) pa_nil)))
      (pss_one (ps_set (i := 1) sc_trigger_all.nd rfl (Or.inl rfl) (pe_op op_cat (pe_slice sl_list (pv 1) (po_some pe_int) po_none) (pe_meth0 (pv 0) T.c_Book T.m_triggered (ok_triggered T) (hr.mono (by decide)) T.b_triggered .nil pass0)))))))), ?_⟩
    have CH := chain_ok (m.ws.length + 1) (trig m) (fired m) g.fired g.allW (by have := fired_len g; omega)
    have hev0 : (fired m).ev.length ≤ sizeLine := by
      obtain ⟨evs, w1⟩ := CH.2.2.1
      have h2 : (chain (m.ws.length + 1) (trig m) (fired m)).ev.length ≤ sizeLine := he
      rw [w1, List.length_append] at h2
      omega
    have up : ∀ {H1 : Hp} {L1 : Ls} {m1 : B}, Post A b (fun x => Ft b L m x) H L m H1 L1 m1 → ∀ x, Ft b L1 m1 x → Ft b L m x ∨ H x = none := fun P x z => (P.sub x z).elim .inl fun z => z
    refine ⟨_, rfl, mtB hb (by decide +kernel) ?_⟩
    refine ⟨b, L, m, rfl, hb, hl, hev0, fun H1 L1 l1 P1 hl1 el1 nF1 => ?_⟩
    have P1' : Post A b (fun x => Ft b L m x) H L m H1 L1 (fired m) := P1.mono fun x z => .inl (z.elim .inl fun z => .inr (.inr (.inr (.inl z))))
    have ow : ∀ o ∈ trig m, OrdAt A H1 o ∧ (Ft b L m o.adr ∨ H o.adr = none) := fun o ho => by
      have h0 := hb.os o (.inr (trig_ws ho))
      exact ⟨P1.ord h0 fun z => z.elim (h0.ne_book hb) (hb.ord_e h0), .inl (.inr (.inr (.inr (.inr (.inr (List.mem_map.mpr ⟨o, trig_ws ho, rfl⟩))))))⟩
    refine ⟨fun n σ H' => ∃ (k : Nat) (qq : List O) (m' : B) (L' : Ls) (l : Addr), n = qq.length + m'.ws.length ∧ σ = [some (.ref b), some (.ref l)] ∧ Post A b (fun x => Ft b L m x) H L m H' L' m' ∧ H' l = some (.lst (qq.map rf)) ∧ ¬ Ft b L' m' l ∧
        (∀ o ∈ qq, OrdAt A H' o ∧ (Ft b L m o.adr ∨ H o.adr = none)) ∧ Gd qq m' ∧ AllW qq ∧ qq.length + m'.ws.length < k + 1 ∧ chain k qq m' = trigAll m ∧ m'.rs.length + m'.ws.length + qq.length ≤ 2000,
      ⟨_, m.ws.length + 1, trig m, fired m, L1, l1, rfl, rfl, P1', el1, nF1, ow, g.fired, g.allW, ?_, rfl, ?_⟩, ?_⟩
    · have := fired_len g
      omega
    · have := fired_len g
      have := (fired_is g).rs
      rw [this]
      omega
    rintro n σ H' ⟨k, qq, m', L', l, rfl, rfl, P2, el, nF, ho, g', w', hk, eq, hl'⟩
    refine ⟨_, rfl, Nat.zero_le _, fun p hp => ⟨l, p, qq.map rf, rfl, rfl, ?_, SqL.of upd_same, _, rfl, ?_⟩⟩
    · exact SqL.of (by rw [upd_ne (ne_of_none el hp)]; exact el)
    have sp : Same H' (upd H' p (.lst [])) := upd_same_of hp
    have hbp : BookAt A (upd H' p (.lst [])) b L' m' := P2.at_.same sp
    have P3 : Post A b (fun x => Ft b L m x) H L m (upd H' p (.lst [])) L' m' := P2.trans (X := fun x => Ft b L m x) (Y := fun _ => False) (Post.same sp P2.at_ (fun x z => upd_live z) hbp) (fun x z => .inl z) (fun x z => z.elim)
    have elp : (upd H' p (.lst [])) l = some (.lst (qq.map rf)) := sp _ _ el
    have hop : ∀ o ∈ qq, OrdAt A (upd H' p (.lst [])) o ∧ (Ft b L m o.adr ∨ H o.adr = none) := fun o h => ⟨(ho o h).1.same sp, (ho o h).2⟩
    generalize upd H' p (.lst []) = Hc at hbp P3 elp hop ⊢
    cases qq with
    | nil =>
      refine iteF ?_
      have e : chain k [] m' = m' := by cases k <;> rfl
      rw [e] at eq
      rw [← eq] at q
      exact q Hc L' P3
    | cons o r =>
      refine iteT ⟨fun σ' H2 => ∃ n', n' < (o :: r).length + m'.ws.length ∧ ∃ (k : Nat) (qq : List O) (m' : B) (L' : Ls) (l : Addr), n' = qq.length + m'.ws.length ∧ σ' = [some (.ref b), some (.ref l)] ∧ Post A b (fun x => Ft b L m x) H L m H2 L' m' ∧ H2 l = some (.lst (qq.map rf)) ∧ ¬ Ft b L' m' l ∧
        (∀ o ∈ qq, OrdAt A H2 o ∧ (Ft b L m o.adr ∨ H o.adr = none)) ∧ Gd qq m' ∧ AllW qq ∧ qq.length + m'.ws.length < k + 1 ∧ chain k qq m' = trigAll m ∧ m'.rs.length + m'.ws.length + qq.length ≤ 2000, fun σ' H2 z => z, ?_⟩
      have lo := (w' o List.mem_cons_self).awake
      have Dn := come_done g'.head lo
      have FL := fired_len Dn.gd
      have FI := fired_is Dn.gd
      obtain ⟨k', rfl⟩ : ∃ k', k = k' + 1 := ⟨k - 1, by have : (o :: r).length = r.length + 1 := rfl; omega⟩
      have eq' : chain k' (r ++ trig (come m' o.awake)) (fired (come m' o.awake)) = trigAll m := eq
      have hlen : (o :: r).length = r.length + 1 := rfl
      have Wr : AllW (r ++ trig (come m' o.awake)) := fun x hx => (List.mem_append.mp hx).elim (fun z => w' x (List.mem_cons_of_mem _ z)) (fun z => Dn.gd.allW x z)
      have hfuel : (r ++ trig (come m' o.awake)).length + (fired (come m' o.awake)).ws.length < k' + 1 := by
        rw [List.length_append]
        rw [Dn.ws] at FL
        omega
      have hevf : (fired (come m' o.awake)).ev.length ≤ sizeLine := by
        obtain ⟨evs, w1⟩ := (chain_ok k' _ _ Dn.gd.fired Wr hfuel).2.2.1
        rw [eq'] at w1
        rw [w1, List.length_append] at he
        omega
      have hevc : (come m' o.awake).ev.length ≤ sizeLine := by
        have e := congrArg List.length FI.ev
        rw [List.length_append] at e
        omega
      have oo := (hop o List.mem_cons_self).1
      have nFo : ¬ Ft b L' m' o.adr := hbp.apart oo (g'.adrs_q List.mem_cons_self).1 (g'.adrs_q List.mem_cons_self).2
      have nFl : ¬ Ft b L' m' l := nF
      have nlo : l ≠ o.adr := Ne.symm (oo.ne_lst elp)
      -- the first of them comes
      refine ⟨_, rfl, mtB hbp (by decide +kernel) ⟨_, rfl, ⟨l, _, 0, rf o, rfl, rfl, SqL.of elp, at_of (j := 0) rfl rfl, ?_⟩⟩⟩
      refine ⟨b, L', m', o.awake, rfl, hbp, oo, g'.one.head, by omega, hevc, fun H2 L2 P4 => ?_⟩
      have nX : ∀ x, ¬ Ft b L' m' x → x ≠ o.adr → ¬ (Ft b L' m' x ∨ x = o.awake.adr) := fun x a b z => z.elim a b
      have el2 := P4.fr _ _ elp (nX _ nFl nlo)
      have nFl2 := P4.ft elp nFl (nX _ nFl nlo)
      have nodup := g'.nad
      rw [adrs_app] at nodup
      have or2 : ∀ x ∈ r, OrdAt A H2 x ∧ (Ft b L m x.adr ∨ H x.adr = none) := fun x hx => by
        have h1 := hop x (List.mem_cons_of_mem _ hx)
        refine ⟨P4.ord h1.1 (nX _ (hbp.apart h1.1 (g'.adrs_q (List.mem_cons_of_mem _ hx)).1 (g'.adrs_q (List.mem_cons_of_mem _ hx)).2) fun z => ?_), h1.2⟩
        have nd := (List.nodup_append.mp nodup).1
        have nd2 : (o.adr :: adrs r).Nodup := nd
        exact (List.nodup_cons.mp nd2).1 (List.mem_map.mpr ⟨x, hx, z⟩)
      have P5 : Post A b (fun x => Ft b L m x) H L m H2 L2 (come m' o.awake) := P3.trans P4 (fun x z => .inl z) (fun x z => z.elim (up P3 x) fun z => by rw [show x = o.adr from z]; exact (hop o List.mem_cons_self).2)
      -- the rest of them, and those that are found now
      have ecut : cutV ((o :: r).map rf) (some 1) none = r.map rf := by
        unfold cutV
        have e1 : HT.sIx ((o :: r).map rf).length 0 (some 1) = 1 := by
          have := HT.sIx_nat ((o :: r).map rf).length 0 1
          rw [show ((1 : Nat) : Int) = 1 from rfl] at this
          rw [this, List.length_map]
          exact Nat.min_eq_left (by show 1 ≤ r.length + 1; omega)
        rw [e1, HT.sIx_none]
        show List.take (((o :: r).map rf).length - 1) (r.map rf) = r.map rf
        apply List.take_of_length_le
        rw [List.length_map, List.length_map]
        exact Nat.le_refl _
      refine ⟨_, rfl, _, rfl, l, _, rfl, SqL.of el2, fun p1 hp1 => ?_⟩
      rw [ecut]
      have s3 : Same H2 (upd H2 p1 (.lst (r.map rf))) := upd_same_of hp1
      have hb3 := P5.at_.same s3
      refine ⟨_, rfl, mtB hb3 (by decide +kernel) ?_⟩
      refine ⟨b, L2, come m' o.awake, rfl, hb3, ?_, hevf, fun H4 L4 l4 P6 hl4 el4 nF4 => ?_⟩
      · have := Dn.len
        rw [Dn.ws]
        omega
      have nFp1 : ¬ Ft b L2 (come m' o.awake) p1 := P5.at_.new hp1
      have nXp1 : ¬ (p1 = b ∨ p1 = L2.le) := fun z => nFp1 (z.elim .inl fun z => .inr (.inr (.inr (.inl z))))
      have ep1 := P6.fr _ _ upd_same nXp1
      refine ⟨p1, l4, r.map rf, (trig (come m' o.awake)).map rf, rfl, rfl, ep1, el4, ?_, fun p2 hp2 => ?_⟩
      · rw [List.length_map, List.length_map]
        have h1 : r.length ≤ 2000 := by omega
        have h2 : (trig (come m' o.awake)).length ≤ 2000 := by
          rw [Dn.ws] at FL
          omega
        exact Nat.le_trans (Nat.add_le_add h1 h2) (by decide)
      have P7 : Post A b (fun x => Ft b L m x) H L m H4 L4 (fired (come m' o.awake)) :=
        (P5.trans (X := fun x => Ft b L m x) (Y := fun _ => False) (Post.same s3 P5.at_ (fun x z => upd_live z) hb3) (fun x z => .inl z) (fun x z => z.elim)).trans P6 (fun x z => .inl z) (fun x z => up P5 x (z.elim .inl fun z => .inr (.inr (.inr (.inl z)))))
      have s8 : Same H4 (upd H4 p2 (.lst (r.map rf ++ (trig (come m' o.awake)).map rf))) := upd_same_of hp2
      have hb8 := P7.at_.same s8
      have P8 : Post A b (fun x => Ft b L m x) H L m (upd H4 p2 (.lst (r.map rf ++ (trig (come m' o.awake)).map rf))) L4 (fired (come m' o.awake)) :=
        P7.trans (X := fun x => Ft b L m x) (Y := fun _ => False) (Post.same s8 P7.at_ (fun x z => upd_live z) hb8) (fun x z => .inl z) (fun x z => z.elim)
      refine ⟨_, ?_, k', r ++ trig (come m' o.awake), fired (come m' o.awake), L4, p2, rfl, rfl, P8, ?_, P7.at_.new hp2, ?_, Dn.gd.fired, Wr, hfuel, eq', ?_⟩
      · rw [List.length_append]
        rw [Dn.ws] at FL
        omega
      · rw [upd_same, List.map_append]
      · intro x hx
        rcases List.mem_append.mp hx with hx | hx
        · have h1 := or2 x hx
          have h3 := h1.1.same s3
          exact ⟨(P6.ord h3 fun z => z.elim (h3.ne_book hb3) (hb3.ord_e h3)).same s8, h1.2⟩
        · have h3 := hb3.os x (.inr (trig_ws hx))
          exact ⟨(P6.ord h3 fun z => z.elim (h3.ne_book hb3) (hb3.ord_e h3)).same s8, up P5 _ (.inr (.inr (.inr (.inr (.inr (List.mem_map.mpr ⟨x, trig_ws hx, rfl⟩))))))⟩
      · have := Dn.len
        rw [FI.rs, List.length_append]
        rw [Dn.ws] at FL
        omega
end
end SB

/-! ## take -/
namespace SB
open PySem PySem.Spec PyProof.Rows L2
def sp_take (K : PySem.W.Frag) (A : Ad) : Sp := fun vs H Q _ => ∃ (b : Addr) (L : Ls) (m : B) (o : O), vs = [.ref b, rf o] ∧ BookAt A H b L m ∧ OrdAt A H o ∧ Gd [] (take1 m o) ∧ Gd [o] m ∧ m.rs.length + m.ws.length ≤ 1999 ∧ (take m o).ev.length ≤ sizeLine ∧
  ∀ (H' : Hp) (L' : Ls), Post A b (fun x => Ft b L m x ∨ x = o.adr) H L m H' L' (take m o) → Q .non H'
section
variable {P : Program} {w : World} {K : PySem.W.Frag} {mg : Str → Option Value} {base : Heap} {A : Ad}
theorem ok_take (T : All K mg A) : FnOk P w K mg base CX0 7 A.f_take A.fd_take ["self", "order"] (sp_take K A) := by
  refine T.F_take.ok sc_take (fun vs H Q E h => ?_) (fun cdv A' outer s H vs Q E hr h => ?_)
  · obtain ⟨b, L, m, o, rfl, hb, ho, g1, g, hl, he, q⟩ := h
    rfl
  · obtain ⟨b, L, m, o, rfl, hb, ho, g1, g, hl, he, q⟩ := h
    refine ⟨_, (pss_cons (ps_if (pt_val (pe_call (ok_is_stop T) (hr.mono (by decide)) (by rfl) T.g_is_stop T.k_is_stop T.b_is_stop .nil pass0 (pa_cons (pe_fld (pv 1) rfl) pa_nil))) (pss_one (ps_expr (pe_bm PySem.F.plainAttrs_list PySem.F.slot_list_append PySem.F.type_list_append mt_append (pe_fld (pv 0) rfl) (pa_cons (pv 1) pa_nil)))) (pss_one (ps_if (pt_val (pe_fld (pv 0) rfl)) (pss_one (ps_expr (pe_meth (pv 0) T.c_Book T.m_rest (ok_rest T) (hr.mono (by decide)) T.b_rest .nil pass0 (pa_cons (pv 1) pa_nil)))) (pss_one (ps_expr (pe_meth (pv 0) T.c_Book T.m_come (ok_come T) (hr.mono (by decide)) T.b_come .nil pass0 (pa_cons (pv 1) pa_nil)))))))
      (pss_one (ps_if (pt_not (pt_val (pe_fld (pv 0) rfl))) (pss_one (ps_expr (pe_meth0 (pv 0) T.c_Book T.m_trigger_all (ok_trigger_all T) (hr.mono (by decide)) T.b_trigger_all .nil pass0))) pss_nil))), ?_⟩
    have T1 := take1_keeps g
    have nF : ¬ Ft b L m o.adr := hb.apart ho (g.adrs_q List.mem_cons_self).1 (g.adrs_q List.mem_cons_self).2
    have hev1 : (take1 m o).ev.length ≤ sizeLine := Nat.le_trans (take_ev g1) he
    have fin : ∀ (H1 : Hp) (L1 : Ls), Post A b (fun x => Ft b L m x ∨ x = o.adr) H L m H1 L1 (take1 m o) → tIfS (tNot (tB (tFld K (tVar 0) "auction"))) (tDrop (tMeth A.cB "trigger_all" (sp_trigger_all K A) [] E0 (tVar 0) tNil)) tNext { nx := fun _ H' => Q .non H', rt := Q } [some (.ref b), some (rf o)] H1 := fun H1 L1 P1 => by
      refine ⟨_, rfl, rdB T P1.at_ T.n_auction (bf_auction _ _ _ _ _) ⟨_, rfl, ?_⟩⟩
      rw [T1.1]
      refine ifb (fun c => ?_) (fun c => ?_)
      · have c0 : m.auc = false := not_t c
        have et : take m o = trigAll (take1 m o) := by unfold SB.take; rw [c0]; rfl
        rw [et] at he q
        refine ⟨_, rfl, mtB P1.at_ (by decide +kernel) ?_⟩
        refine ⟨b, L1, take1 m o, rfl, P1.at_, g1, by have := T1.2.1; omega, he, fun H2 L2 P2 => q H2 L2 ?_⟩
        refine P1.trans P2 (fun x z => .inl z) (fun x z => ?_)
        rcases P1.sub x z with z | z | z
        · exact .inl (.inl z)
        · exact .inl z
        · exact .inr z
      · have c0 : m.auc = true := not_f c
        have et : take m o = take1 m o := by unfold SB.take; rw [c0]; rfl
        rw [et] at q
        exact q H1 L1 P1
    refine ⟨_, rfl, rdO T ho T.n_kind (ol_kind _ _ _ _ _ _ _) ⟨o.k, rfl, _, rfl, ?_⟩⟩
    refine ifb (fun c => ?_) (fun c => ?_)
    · have c0 : o.k = 5 ∨ o.k = 6 := by
        unfold stopK at c
        rw [Bool.or_eq_true, decide_eq_true_iff, decide_eq_true_iff] at c
        exact c
      have e1 : take1 m o = { m with ws := m.ws ++ [o] } := by unfold take1; rw [if_pos c0]
      rw [e1] at fin
      have hw0 := hb.w
      refine ⟨_, rfl, rdB T hb T.n_waiting (bf_waiting _ _ _ _ _) ⟨.inl ⟨rfl, _, SqL.of hw0⟩, _, rfl, L.lw, _, _, rfl, rfl, hw0, ?_, ?_⟩⟩
      · rw [List.length_map]
        exact Nat.lt_of_le_of_lt (Nat.le_trans (Nat.le_add_left _ _) hl) (by decide)
      · exact fin _ L ((wait_post hb ho).mono fun x z => .inl (z.elim (fun z => .inl (.inr (.inr (.inl z)))) .inr))
    · have c0 : ¬ (o.k = 5 ∨ o.k = 6) := by
        unfold stopK at c
        intro z
        rw [Bool.or_eq_false_iff] at c
        exact z.elim (of_decide_eq_false c.1) (of_decide_eq_false c.2)
      refine ⟨_, rfl, rdB T hb T.n_auction (bf_auction _ _ _ _ _) ⟨_, rfl, ?_⟩⟩
      refine ifb (fun d => ?_) (fun d => ?_)
      · have e1 : take1 m o = m.rest o := by unfold take1; rw [if_neg c0, if_pos d]
        rw [e1] at fin hev1
        refine ⟨_, rfl, mtB hb (by decide +kernel) ⟨_, rfl, ?_⟩⟩
        refine ⟨b, L, m, o, rfl, hb, ho, by omega, ?_, fun H1 P1 => fin H1 L (P1.mono fun x z => .inl (z.elim (fun z => .inl (.inr (.inl z))) fun z => z.elim (fun z => .inl (.inr (.inr (.inr (.inl z))))) .inr))⟩
        have h2 : (m.ev ++ [Sd17.Ev.rests o.s.id o.s.price o.s.amount]).length ≤ sizeLine := hev1
        rw [List.length_append] at h2
        exact h2
      · have e1 : take1 m o = come m o := by
          unfold take1
          rw [if_neg c0, d, if_neg Bool.false_ne_true]
        rw [e1] at fin hev1
        refine ⟨_, rfl, mtB hb (by decide +kernel) ⟨_, rfl, ?_⟩⟩
        exact ⟨b, L, m, o, rfl, hb, ho, g, by omega, hev1, fun H1 L1 P1 => fin H1 L1 P1⟩
end
end SB

/-! ## cancel -/
namespace SB
open PySem PySem.Spec PyProof.Rows L2
def sp_cancel (K : PySem.W.Frag) (A : Ad) : Sp := fun vs H Q _ => ∃ (b : Addr) (L : Ls) (m : B) (o : O), vs = [.ref b, rf o] ∧ BookAt A H b L m ∧ OrdAt A H o ∧ m.rs.length + m.ws.length ≤ 2000 ∧ m.ev.length < sizeLine ∧
  ∀ (H' : Hp) (L' : Ls), Post A b (fun x => x = b ∨ x = L.le) H L m H' L' (cancel m o) → Q .non H'
section
variable {P : Program} {w : World} {K : PySem.W.Frag} {mg : Str → Option Value} {base : Heap} {A : Ad}
theorem ok_cancel (T : All K mg A) : FnOk P w K mg base CX0 3 A.f_cancel A.fd_cancel ["self", "order"] (sp_cancel K A) := by
  refine T.F_cancel.ok sc_cancel (fun vs H Q E h => ?_) (fun cdv A' outer s H vs Q E hr h => ?_)
  · obtain ⟨b, L, m, o, rfl, hb, ho, hl, he, q⟩ := h
    rfl
  · obtain ⟨b, L, m, o, rfl, hb, ho, hl, he, q⟩ := h
    refine ⟨_, (pss_cons (ps_expr (pe_meth (pv 0) T.c_Book T.m_take_out (ok_take_out T) (hr.mono (by decide)) T.b_take_out .nil pass0 (pa_cons (pe_fld (pv 1) rfl) pa_nil)))
      (pss_one (ps_expr (pe_meth (pv 0) T.c_Book T.m_end (ok_end T) (hr.mono (by decide)) T.b_end .nil pass0 (pa_cons (pv 1) (pa_cons (pe_glob (v := .int (1)) (by rfl) (T.g_CANCELLED).choose_spec ⟨_, rfl⟩) pa_nil)))))), ?_⟩
    refine ⟨_, rfl, mtB hb (by decide +kernel) ⟨_, rfl, rdO T ho T.n_number (ol_number _ _ _ _ _ _ _) ?_⟩⟩
    refine ⟨b, L, m, o.s.id, rfl, hb, hl, fun H1 L1 eL P1 => ?_⟩
    have ho2 := P1.ord ho (ho.ne_book hb)
    refine ⟨_, rfl, mtB P1.at_ (by decide +kernel) ⟨_, rfl, ?_⟩⟩
    refine ⟨b, L1, _, o, 1, rfl, P1.at_, ho2, he, fun H2 P2 => q H2 L1 ?_⟩
    exact P1.trans P2 (fun x z => .inl (.inl z)) (fun x z => .inl (.inr (z.trans eL)))
end
end SB

/-! ## change -/
namespace SB
open PySem PySem.Spec PyProof.Rows L2
def sp_change (K : PySem.W.Frag) (A : Ad) : Sp := fun vs H Q _ => ∃ (b : Addr) (L : Ls) (m : B) (o : O) (p a : Nat), vs = [.ref b, rf o, nV p, nV a] ∧ BookAt A H b L m ∧ o ∈ m.rs ∧ Gd [] m ∧ 1 ≤ p ∧ 1 ≤ a ∧ m.rs.length + m.ws.length ≤ 1999 ∧ (∀ x, Fresh m x → (change m o x p a).ev.length ≤ sizeLine) ∧
  ∀ (H' : Hp) (L' : Ls) (x : Addr), Fresh m x → Post A b (fun x => Ft b L m x) H L m H' L' (change m o x p a) → Q .non H'
section
variable {P : Program} {w : World} {K : PySem.W.Frag} {mg : Str → Option Value} {base : Heap} {A : Ad}
theorem ok_change (T : All K mg A) : FnOk P w K mg base CX0 8 A.f_change A.fd_change ["self", "order", "price", "amount"] (sp_change K A) := by
  refine T.F_change.ok sc_change (fun vs H Q E h => ?_) (fun cdv A' outer s H vs Q E hr h => ?_)
  · obtain ⟨b, L, m, o, p, a, rfl, hb, hm, g, hp, ha, hl, he, q⟩ := h
    rfl
  · obtain ⟨b, L, m, o, p, a, rfl, hb, hm, g, hp, ha, hl, he, q⟩ := h
    refine ⟨_, (pss_one (ps_if (PW.pt (pw_and (pt_cmpR op_eq (pv 2) (pe_fld (pv 1) rfl) (nomark _)) (pw_and1 (pt_cmpR op_le (pv 3) (pe_fld (pv 1) rfl) (nomark _))))) (pss_cons (ps_fld (pv 1) (pv 3) rfl)
      (pss_one (ps_expr (pe_meth (pv 0) T.c_Book T.m_tell (ok_tell T) (hr.mono (by decide)) T.b_tell .nil pass0 (pa_cons (pe_glob (v := .int (2)) (by rfl) (T.g_RESTS).choose_spec ⟨_, rfl⟩) (pa_cons (pe_fld (pv 1) rfl) (pa_cons pe_int (pa_cons (pv 2) (pa_cons (pv 3) (pa_cons pe_int pa_nil)))))))))) (pss_cons (ps_expr (pe_meth (pv 0) T.c_Book T.m_take_out (ok_take_out T) (hr.mono (by decide)) T.b_take_out .nil pass0 (pa_cons (pe_fld (pv 1) rfl) pa_nil)))
      (pss_one (ps_expr (pe_meth (pv 0) T.c_Book T.m_take (ok_take T) (hr.mono (by decide)) T.b_take .nil pass0 (pa_cons (pe_make T.mk_Order (ok_initO T) (hr.mono (by decide)) rfl T.g_Order T.b_initO .nil pass0 (pa_cons (pe_fld (pv 1) rfl) (pa_cons (pe_fld (pv 1) rfl) (pa_cons (pe_fld (pv 1) rfl) (pa_cons (pe_glob (v := .int (0)) (by rfl) (T.g_LIMIT).choose_spec ⟨_, rfl⟩) (pa_cons (pv 2) (pa_cons (pv 3) (pa_cons pe_int pa_nil)))))))) pa_nil))))))), ?_⟩
    have ho := hb.os o (.inl hm)
    have r := g.rok o hm
    have hF : Ft b L m o.adr := .inr (.inr (.inr (.inr (.inl (List.mem_map.mpr ⟨o, hm, rfl⟩)))))
    refine ⟨_, rfl, _, rfl, rdO T ho T.n_price (ol_price _ _ _ _ _ _ _) ⟨rfl, _, rfl, ?_⟩⟩
    rw [dI, nat_eq]
    have other : ¬ (p = o.s.price ∧ a ≤ o.s.amount) → tSeq (tDrop (tMeth A.cB "take_out" (sp_take_out K A) [] E0 (tVar 0) (tCons (tFld K (tVar 1) "number") tNil)))
        (tDrop (tMeth A.cB "take" (sp_take K A) [] E0 (tVar 0) (tCons (tMake A.cO (sp_initO K A) [] E0 (tCons (tFld K (tVar 1) "number") (tCons (tFld K (tVar 1) "owner") (tCons (tFld K (tVar 1) "side") (tCons (tC (.int 0)) (tCons (tVar 2) (tCons (tVar 3) (tCons (tC (.int 0)) tNil)))))))) tNil)))
        { nx := fun _ H' => Q .non H', rt := Q } [some (.ref b), some (rf o), some (nV p), some (nV a)] H := fun c => by
      have ec : ∀ x, change m o x p a = take (m.takeOut o.s.id) (o.like x p a) := fun x => by unfold SB.change; rw [if_neg c]
      refine ⟨_, rfl, mtB hb (by decide +kernel) ⟨_, rfl, rdO T ho T.n_number (ol_number _ _ _ _ _ _ _) ?_⟩⟩
      refine ⟨b, L, m, o.s.id, rfl, hb, by omega, fun H1 L1 eL P1 => ?_⟩
      have ho1 := P1.ord ho (ho.ne_book hb)
      refine ⟨_, rfl, mtB P1.at_ (by decide +kernel) ?_⟩
      refine ⟨_, rfl, rdO T ho1 T.n_number (ol_number _ _ _ _ _ _ _) ⟨_, rfl, rdO T ho1 T.n_owner (ol_owner _ _ _ _ _ _ _) ⟨_, rfl, rdO T ho1 T.n_side (ol_side _ _ _ _ _ _ _) ⟨_, rfl, _, rfl, ?_⟩⟩⟩⟩
      intro x dx nx nd ne
      refine ⟨x, dx, _, _, _, _, _, _, _, rfl, upd_same, rfl, ?_⟩
      rw [upd_upd]
      have nx0 : H x = none := P1.live x nx
      have s2 : Same H1 (upd (upd H1 dx (.own x)) x (.ins A.cO dx (oL o.s.id o.s.who (sI o.s.buy) 0 p a 0))) := fun y u e => by
        rw [upd_ne (ne_of_none e nx), upd_ne (ne_of_none e nd)]
        exact e
      have live2 : ∀ y, (upd (upd H1 dx (.own x)) x (.ins A.cO dx (oL o.s.id o.s.who (sI o.s.buy) 0 p a 0))) y = none → H1 y = none := fun y z => upd_live (upd_live z)
      have ho2 : OrdAt A (upd (upd H1 dx (.own x)) x (.ins A.cO dx (oL o.s.id o.s.who (sI o.s.buy) 0 p a 0))) (o.like x p a) := ⟨dx, upd_same⟩
      have hb2 := P1.at_.same s2
      generalize upd (upd H1 dx (.own x)) x (.ins A.cO dx (oL o.s.id o.s.who (sI o.s.buy) 0 p a 0)) = H2 at s2 live2 ho2 hb2 ⊢
      have hxr : x ∉ adrs m.rs ∧ x ∉ adrs m.ws := ⟨fun z => hb.new nx0 (.inr (.inr (.inr (.inr (.inl z))))), fun z => hb.new nx0 (.inr (.inr (.inr (.inr (.inr z)))))⟩
      have G := like_gd g hm x p a hxr
      have G1 : Gd [] (take1 (m.takeOut o.s.id) (o.like x p a)) := take1_gd G (like_take r x p a hp ha) fun _ => .inl rfl
      have P2 : Post A b (fun x => Ft b L m x) H L m H2 L1 (m.takeOut o.s.id) := P1.trans (Post.same s2 P1.at_ live2 hb2) (X := fun x => x = b) (Y := fun _ => False) (fun x z => .inl (.inl z)) (fun x z => z.elim)
      refine ⟨b, L1, _, o.like x p a, rfl, hb2, ho2, G1, G, ?_, ?_, fun H3 L3 P3 => ?_⟩
      · show (out o.s.id m.rs).length + (out o.s.id m.ws).length ≤ 1999
        have := out_length o.s.id m.rs
        have := out_length o.s.id m.ws
        omega
      · have := he x hxr
        rw [ec] at this
        exact this
      · have qq := q H3 L3 x hxr
        rw [ec] at qq
        refine qq (P2.trans P3 (fun x z => .inl z) (fun y z => ?_))
        rcases z with z | z
        · rcases P2.sub y z with z | z | z
          · exact .inl z
          · exact .inl z
          · exact .inr z
        · exact .inr (by rw [z]; exact nx0)
    refine ifb (fun c => ?_) (fun c => iteF (other fun z => of_decide_eq_false c z.1))
    refine ⟨_, rfl, _, rfl, rdO T ho T.n_amount (ol_amount _ _ _ _ _ _ _) ⟨_, _, rfl, rfl, _, rfl, ?_⟩⟩
    rw [nat_le]
    refine ifb (fun d => ?_) (fun d => other fun z => of_decide_eq_false d z.2)
    have cd : p = o.s.price ∧ a ≤ o.s.amount := ⟨of_decide_eq_true c, of_decide_eq_true d⟩
    obtain ⟨x0, fx0⟩ := fresh_in m
    have ec : change m o x0 p a = (m.setAmt o.adr a).tell (.rests o.s.id p a) := by unfold SB.change; rw [if_pos cd]
    have he0 := he x0 fx0
    have q0 := fun H' L' => q H' L' x0 fx0
    rw [ec] at he0 q0
    obtain ⟨d1, q1⟩ := id ho
    refine ⟨_, rfl, _, rfl, o.adr, A.cO, d1, _, rfl, q1, T.c_Order, T.n_amount, (by show 7 < 1000; decide), ?_⟩
    have put : putF "amount" (nV a) (oF o) = oF (o.amt a) := ol_put ..
    rw [put]
    have P1 := amt_post hb ho d1 a
    have ho1 : OrdAt A (upd H o.adr (.ins A.cO d1 (oF (o.amt a)))) (o.amt a) := ⟨d1, upd_same⟩
    refine ⟨_, rfl, mtB P1.at_ (by decide +kernel) ?_⟩
    refine ⟨_, rfl, rdO T (o := o.amt a) ho1 T.n_number (ol_number _ _ _ _ _ _ _) ⟨_, rfl, _, rfl, ?_⟩⟩
    refine ⟨b, 2, o.s.id, 0, p, a, 0, L, _, .rests o.s.id p a, rfl, rfl, P1.at_, ?_, fun H2 P2 => q0 H2 L ?_⟩
    · have h2 : (m.ev ++ [Sd17.Ev.rests o.s.id p a]).length ≤ sizeLine := he0
      rw [List.length_append] at h2
      exact h2
    · exact P1.trans P2 (fun x z => .inl (by rw [z]; exact hF)) (fun x z => .inl (.inr (.inr (.inr (.inl z)))))
end
end SB

/-! ## price_now -/
namespace SB
open PySem PySem.Spec PyProof.Rows L2
def sp_price_now (K : PySem.W.Frag) (A : Ad) : Sp := fun vs H Q _ => ∃ (b : Addr) (L : Ls) (m : B), vs = [.ref b] ∧ BookAt A H b L m ∧ m.rs.length < 4000 ∧
  ∀ H' : Hp, Same H H' → (∀ x, H' x = none → H x = none) → Q (nV (priceNow m)) H'
section
variable {P : Program} {w : World} {K : PySem.W.Frag} {mg : Str → Option Value} {base : Heap} {A : Ad}
theorem ok_price_now (T : All K mg A) : FnOk P w K mg base CX0 3 A.f_price_now A.fd_price_now ["self"] (sp_price_now K A) := by
  refine T.F_price_now.ok sc_price_now (fun vs H Q E h => ?_) (fun cdv A' outer s H vs Q E hr h => ?_)
  · obtain ⟨b, L, m, rfl, hb, hl, q⟩ := h
    rfl
  · obtain ⟨b, L, m, rfl, hb, hl, q⟩ := h
    refine ⟨_, (pss_one (ps_ret (pe_call (ok_auction_price T) (hr.mono (by decide)) (by rfl) T.g_auction_price T.k_auction_price T.b_auction_price .nil pass0 (pa_cons (pe_fld (pv 0) rfl) (pa_cons (pe_fld (pv 0) rfl) pa_nil))))), ?_⟩
    refine ⟨_, rfl, rdB T hb T.n_resting (bf_resting _ _ _ _ _) ⟨_, rfl, rdB T hb T.n_latest (bf_latest _ _ _ _ _) ?_⟩⟩
    exact ⟨L.lr, m, rfl, SqL.of hb.r, fun o ho => hb.os o (.inl ho), hl, q⟩
end
end SB

/-! ## trade_at -/
namespace SB
open PySem PySem.Spec PyProof.Rows L2
def sp_trade_at (K : PySem.W.Frag) (A : Ad) : Sp := fun vs H Q _ => ∃ (b : Addr) (L : Ls) (m : B) (p : Nat), vs = [.ref b, nV p] ∧ BookAt A H b L m ∧ Gd [] m ∧ m.rs.length + m.ws.length ≤ 2000 ∧ (tradeAt p (m.rs.length + 1) m).ev.length ≤ sizeLine ∧
  ∀ (H' : Hp) (L' : Ls), Post A b (fun x => Ft b L m x) H L m H' L' (tradeAt p (m.rs.length + 1) m) → Q .non H'
section
variable {P : Program} {w : World} {K : PySem.W.Frag} {mg : Str → Option Value} {base : Heap} {A : Ad}
theorem ok_trade_at (T : All K mg A) : FnOk P w K mg base CX0 3 A.f_trade_at A.fd_trade_at ["self", "price"] (sp_trade_at K A) := by
  refine T.F_trade_at.ok sc_trade_at (fun vs H Q E h => ?_) (fun cdv A' outer s H vs Q E hr h => ?_)
  · obtain ⟨b, L, m, p, rfl, hb, g, hl, he, q⟩ := h
    rfl
  · obtain ⟨b, L, m, p, rfl, hb, g, hl, he, q⟩ := h
    refine ⟨_, (pss_cons (ps_set (i := 2) sc_trade_at.nd rfl (Or.inl rfl) (pe_meth (pv 0) T.c_Book T.m_best (ok_best T) (hr.mono (by decide)) T.b_best .nil pass0 (pa_cons (pe_glob (v := .int (0)) (by rfl) (T.g_BUYS).choose_spec ⟨_, rfl⟩) pa_nil)))
      (pss_cons (ps_set (i := 3) sc_trade_at.nd rfl (Or.inl rfl) (pe_meth (pv 0) T.c_Book T.m_best (ok_best T) (hr.mono (by decide)) T.b_best .nil pass0 (pa_cons (pe_glob (v := .int (1)) (by rfl) (T.g_SELLS).choose_spec ⟨_, rfl⟩) pa_nil)))
      (pss_one (ps_while PassesOwn.never (PW.pt (pw_and (pt_cmpR op_notN (pv 2) pe_non (nomark _)) (pw_and (pt_cmpR op_notN (pv 3) pe_non (nomark _)) (pw_and (pt_val (pe_meth (pv 2) T.c_Order T.m_accepts (ok_accepts T) (hr.mono (by decide)) T.b_accepts .nil pass0 (pa_cons (pv 1) pa_nil))) (pw_and1 (pt_val (pe_meth (pv 3) T.c_Order T.m_accepts (ok_accepts T) (hr.mono (by decide)) T.b_accepts .nil pass0 (pa_cons (pv 1) pa_nil)))))))) (pss_cons (ps_expr (pe_meth (pv 0) T.c_Book T.m_trade (ok_trade T) (hr.mono (by decide)) T.b_trade .nil pass0 (pa_cons (pv 2) (pa_cons (pv 3) (pa_cons (pv 1) pa_nil)))))
      (pss_cons (ps_expr (pe_meth (pv 0) T.c_Book T.m_take_if_done (ok_take_if_done T) (hr.mono (by decide)) T.b_take_if_done .nil pass0 (pa_cons (pv 2) pa_nil)))
      (pss_cons (ps_expr (pe_meth (pv 0) T.c_Book T.m_take_if_done (ok_take_if_done T) (hr.mono (by decide)) T.b_take_if_done .nil pass0 (pa_cons (pv 3) pa_nil)))
      (pss_cons (ps_set (i := 2) sc_trade_at.nd rfl (Or.inl rfl) (pe_meth (pv 0) T.c_Book T.m_best (ok_best T) (hr.mono (by decide)) T.b_best .nil pass0 (pa_cons (pe_glob (v := .int (0)) (by rfl) (T.g_BUYS).choose_spec ⟨_, rfl⟩) pa_nil)))
      (pss_one (ps_set (i := 3) sc_trade_at.nd rfl (Or.inl rfl) (pe_meth (pv 0) T.c_Book T.m_best (ok_best T) (hr.mono (by decide)) T.b_best .nil pass0 (pa_cons (pe_glob (v := .int (1)) (by rfl) (T.g_SELLS).choose_spec ⟨_, rfl⟩) pa_nil)))))))))))), ?_⟩
    refine ⟨_, rfl, mtB hb (by decide +kernel) ⟨b, L, m, true, rfl, hb, ?_⟩⟩
    refine ⟨_, rfl, mtB hb (by decide +kernel) ⟨b, L, m, false, rfl, hb, ?_⟩⟩
    refine ⟨fun n σ H' => ∃ (k : Nat) (m' : B) (L' : Ls), n = m'.rs.length ∧ σ = [some (.ref b), some (nV p), some (optV (SB.best m'.rs true)), some (optV (SB.best m'.rs false))] ∧ Post A b (fun x => Ft b L m x) H L m H' L' m' ∧ Gd [] m' ∧ m'.rs.length < k ∧
        tradeAt p k m' = tradeAt p (m.rs.length + 1) m ∧ m'.rs.length + m'.ws.length ≤ 2000, ⟨_, m.rs.length + 1, m, L, rfl, rfl, Post.refl hb, g, Nat.lt_succ_self _, rfl, hl⟩, ?_⟩
    rintro n σ H' ⟨k, m', L', rfl, rfl, P1, g', hk, eq, hl'⟩
    have stop : both m' p = none → Q .non H' := fun z => by
      rw [tradeAt_stop z] at eq
      rw [← eq] at q
      exact q H' L' P1
    refine ⟨_, rfl, rfl, _, rfl, ?_⟩
    rw [opt_non]
    cases ex : SB.best m'.rs true with
    | none => exact iteF (stop (by unfold both; rw [ex]))
    | some x =>
      refine iteT ⟨_, rfl, rfl, _, rfl, ?_⟩
      rw [opt_non]
      cases ey : SB.best m'.rs false with
      | none => exact iteF (stop (by unfold both; rw [ex, ey]))
      | some y =>
        have hx := P1.at_.os x (.inl (best_mem ex).1)
        have hy := P1.at_.os y (.inl (best_mem ey).1)
        have eb : both m' p = if (x.accepts p && y.accepts p) = true then some (x, y) else none := by unfold both; rw [ex, ey]
        refine iteT ⟨_, rfl, mtO hx (by decide +kernel) ⟨_, rfl, x, p, rfl, hx, _, rfl, ?_⟩⟩
        refine ifb (fun c => ?_) (fun c => iteF (stop (by rw [eb, c]; rfl)))
        refine ⟨_, rfl, mtO hy (by decide +kernel) ⟨_, rfl, y, p, rfl, hy, _, rfl, ?_⟩⟩
        refine ifb (fun d => ?_) (fun d => stop (by rw [eb, d, Bool.and_false]; rfl))
        have e : both m' p = some (x, y) := by rw [eb, c, d]; rfl
        have C : Crossed m' x y p (cross m' x y p) := both_cross g' e
        obtain ⟨k', rfl⟩ : ∃ k', k = k' + 1 := ⟨k - 1, by omega⟩
        rw [tradeAt_go e] at eq
        have hev : m'.ev.length < sizeLine := by
          rw [← eq] at he
          obtain ⟨_, _, _, _, evs, w1⟩ := tradeAt_ok p k' _ C.gd
          rw [w1, List.length_append, C.ev, List.length_append] at he
          have : [Sd17.Ev.trade x.s.id y.s.id p (min x.s.amount y.s.amount) (y.s.amount - min x.s.amount y.s.amount)].length = 1 := rfl
          have he2 : m'.ev.length + [Sd17.Ev.trade x.s.id y.s.id p (min x.s.amount y.s.amount) (y.s.amount - min x.s.amount y.s.amount)].length + evs.length ≤ sizeLine := he
          omega
        have hne : x.adr ≠ y.adr := fun z => by
          have := nodup_key (f := fun o : O => o.adr) g'.nad_rs (best_mem ex).1 (best_mem ey).1 z
          have b1 := (best_mem ex).2
          rw [this, (best_mem ey).2] at b1
          cases b1
        refine ⟨fun σ' H2 => ∃ n', n' < m'.rs.length ∧ ∃ (k : Nat) (m' : B) (L' : Ls), n' = m'.rs.length ∧ σ' = [some (.ref b), some (nV p), some (optV (SB.best m'.rs true)), some (optV (SB.best m'.rs false))] ∧ Post A b (fun x => Ft b L m x) H L m H2 L' m' ∧ Gd [] m' ∧ m'.rs.length < k ∧
          tradeAt p k m' = tradeAt p (m.rs.length + 1) m ∧ m'.rs.length + m'.ws.length ≤ 2000, fun σ' H2 z => z, ?_⟩
        refine ⟨_, rfl, mtB P1.at_ (by decide +kernel) ⟨_, rfl, _, rfl, _, rfl, ?_⟩⟩
        refine ⟨b, L', m', x, y, p, rfl, P1.at_, hx, hy, hne, hev, fun H2 P2 hx2 hy2 => ?_⟩
        have len2 : (m'.trade x y p).rs.length + (m'.trade x y p).ws.length ≤ 2000 := by
          show (setA y.adr _ (setA x.adr _ m'.rs)).length + (setA y.adr _ (setA x.adr _ m'.ws)).length ≤ 2000
          rw [setA_length, setA_length, setA_length, setA_length]
          exact hl'
        refine ⟨_, rfl, mtB P2.at_ (by decide +kernel) ⟨_, rfl, ?_⟩⟩
        refine ⟨b, L', _, x.amt (x.s.amount - min x.s.amount y.s.amount), rfl, P2.at_, hx2, len2, fun H3 L3 eL3 P3 => ?_⟩
        have hy3 := P3.ord hy2 (hy2.ne_book P2.at_)
        have len3 : ∀ (B0 : B) (i j : Nat), B0.rs.length + B0.ws.length ≤ 2000 → (B0.done i j).rs.length + (B0.done i j).ws.length ≤ 2000 := fun B0 i j h => by
          unfold B.done
          split
          · exact Nat.le_trans (Nat.add_le_add (out_length _ _) (out_length _ _)) h
          · exact h
        refine ⟨_, rfl, mtB P3.at_ (by decide +kernel) ⟨_, rfl, ?_⟩⟩
        refine ⟨b, L3, _, y.amt (y.s.amount - min x.s.amount y.s.amount), rfl, P3.at_, hy3, len3 _ _ _ len2, fun H4 L4 eL4 P4 => ?_⟩
        have Pc : Post A b (fun x => Ft b L m x) H L m H4 L4 (cross m' x y p) := by
          have up : ∀ z, Ft b L' m' z → Ft b L m z ∨ H z = none := fun z w => (P1.sub z w).elim .inl fun w => w
          have A1 := P1.trans (Z := fun x => Ft b L m x) P2 (fun x z => .inl z) (fun z w => by
            rcases w with w | w | w | w
            · exact .inl (.inl w)
            · exact up z (.inr (.inr (.inr (.inl w))))
            · exact up z (.inr (.inr (.inr (.inr (.inl (List.mem_map.mpr ⟨x, (best_mem ex).1, w.symm⟩))))))
            · exact up z (.inr (.inr (.inr (.inr (.inl (List.mem_map.mpr ⟨y, (best_mem ey).1, w.symm⟩)))))))
          have A2 := A1.trans (Z := fun x => Ft b L m x) P3 (fun x z => .inl z) (fun z w => .inl (.inl w))
          exact A2.trans P4 (fun x z => .inl z) (fun z w => .inl (.inl w))
        refine ⟨_, rfl, mtB Pc.at_ (by decide +kernel) ⟨b, L4, cross m' x y p, true, rfl, Pc.at_, ?_⟩⟩
        refine ⟨_, rfl, mtB Pc.at_ (by decide +kernel) ⟨b, L4, cross m' x y p, false, rfl, Pc.at_, ?_⟩⟩
        refine ⟨_, C.len, k', cross m' x y p, L4, rfl, rfl, Pc, C.gd, by have := C.len; omega, eq, ?_⟩
        have := C.len
        rw [C.ws]
        omega
end
end SB

/-! ## begin_auction -/
namespace SB
open PySem PySem.Spec PyProof.Rows L2
def sp_begin_auction (K : PySem.W.Frag) (A : Ad) : Sp := fun vs H Q _ => ∃ (b : Addr) (L : Ls) (m : B), vs = [.ref b] ∧ BookAt A H b L m ∧
  ∀ H' : Hp, Post A b (fun x => x = b) H L m H' L { m with auc := true } → Q .non H'
section
variable {P : Program} {w : World} {K : PySem.W.Frag} {mg : Str → Option Value} {base : Heap} {A : Ad}
theorem ok_begin_auction (T : All K mg A) : FnOk P w K mg base CX0 1 A.f_begin_auction A.fd_begin_auction ["self"] (sp_begin_auction K A) := by
  refine T.F_begin_auction.ok sc_begin_auction (fun vs H Q E h => ?_) (fun cdv A' outer s H vs Q E hr h => ?_)
  · obtain ⟨b, L, m, rfl, hb, q⟩ := h
    rfl
  · obtain ⟨b, L, m, rfl, hb, q⟩ := h
    refine ⟨_, (pss_one (ps_fld (pv 0) pe_bl rfl)), ?_⟩
    refine ⟨_, rfl, wrB T hb T.n_auction fun dx e => ?_⟩
    rw [bp_auction]
    exact q _ (own_post hb dx m.lat true)
end
end SB

/-! ## end_auction -/
namespace SB
open PySem PySem.Spec PyProof.Rows L2
def sp_end_auction (K : PySem.W.Frag) (A : Ad) : Sp := fun vs H Q _ => ∃ (b : Addr) (L : Ls) (m : B), vs = [.ref b] ∧ BookAt A H b L m ∧ Gd [] m ∧ m.rs.length + m.ws.length ≤ 2000 ∧ (endAuc m).ev.length ≤ sizeLine ∧
  ∀ (H' : Hp) (L' : Ls), Post A b (fun x => Ft b L m x) H L m H' L' (endAuc m) → Q .non H'
section
variable {P : Program} {w : World} {K : PySem.W.Frag} {mg : Str → Option Value} {base : Heap} {A : Ad}
theorem ok_end_auction (T : All K mg A) : FnOk P w K mg base CX0 7 A.f_end_auction A.fd_end_auction ["self"] (sp_end_auction K A) := by
  refine T.F_end_auction.ok sc_end_auction (fun vs H Q E h => ?_) (fun cdv A' outer s H vs Q E hr h => ?_)
  · obtain ⟨b, L, m, rfl, hb, g, hl, he, q⟩ := h
    rfl
  · obtain ⟨b, L, m, rfl, hb, g, hl, he, q⟩ := h
    refine ⟨_, (pss_cons (ps_fld (pv 0) pe_bl rfl)
      (pss_cons (ps_set (i := 1) sc_end_auction.nd rfl (Or.inl rfl) (pe_meth0 (pv 0) T.c_Book T.m_price_now (ok_price_now T) (hr.mono (by decide)) T.b_price_now .nil pass0))
      (pss_cons (ps_if (pt_cmpR op_gt (pv 1) pe_int (nomark _)) (pss_one (ps_expr (pe_meth (pv 0) T.c_Book T.m_trade_at (ok_trade_at T) (hr.mono (by decide)) T.b_trade_at .nil pass0 (pa_cons (pv 1) pa_nil)))) pss_nil)
      (pss_one (ps_expr (pe_meth0 (pv 0) T.c_Book T.m_trigger_all (ok_trigger_all T) (hr.mono (by decide)) T.b_trigger_all .nil pass0)))))), ?_⟩
    refine ⟨_, rfl, wrB T hb T.n_auction fun dx e => ?_⟩
    rw [bp_auction]
    have P1 := own_post hb dx m.lat false
    have g0 : Gd [] { m with auc := false } := ⟨g.nid, g.nad, g.rok, g.wok⟩
    refine ⟨_, rfl, mtB P1.at_ (by decide +kernel) ?_⟩
    refine ⟨b, L, { m with auc := false }, rfl, P1.at_, by show m.rs.length < 4000; omega, fun H2 s2 l2 => ?_⟩
    have hb2 := P1.at_.same s2
    have P2 : Post A b (fun x => Ft b L m x) H L m H2 L { m with auc := false } := P1.trans (Post.same s2 P1.at_ l2 hb2) (X := fun x => x = b) (Y := fun _ => False) (fun x z => .inl (.inl z)) (fun x z => z.elim)
    unfold endAuc at he q
    have TA := tradeAt_ok (priceNow { m with auc := false }) (m.rs.length + 1) { m with auc := false } g0
    have fin : ∀ (H3 : Hp) (L3 : Ls) (m3 : B), Gd [] m3 → m3.rs.length + m3.ws.length ≤ 2000 → m3 = (if 0 < priceNow { m with auc := false } then tradeAt (priceNow { m with auc := false }) (m.rs.length + 1) { m with auc := false } else { m with auc := false }) → Post A b (fun x => Ft b L m x) H L m H3 L3 m3 →
        tDrop (tMeth A.cB "trigger_all" (sp_trigger_all K A) [] E0 (tVar 0) tNil) { nx := fun _ H' => Q .non H', rt := Q } [some (.ref b), some (nV (priceNow { m with auc := false }))] H3 := fun H3 L3 m3 g3 hl3 e3 P3 => by
      rw [← e3] at he q
      refine ⟨_, rfl, mtB P3.at_ (by decide +kernel) ?_⟩
      refine ⟨b, L3, m3, rfl, P3.at_, g3, hl3, he, fun H4 L4 P4 => q H4 L4 (P3.trans P4 (fun x z => .inl z) fun x z => ?_)⟩
      rcases P3.sub x z with z | z | z
      · exact .inl z
      · exact .inl z
      · exact .inr z
    refine ⟨_, rfl, _, _, rfl, rfl, _, rfl, ?_⟩
    refine ifb (fun c => ?_) (fun c => ?_)
    · have c0 : 0 < priceNow { m with auc := false } := by have := of_decide_eq_true c; omega
      refine ⟨_, rfl, mtB P2.at_ (by decide +kernel) ⟨_, rfl, ?_⟩⟩
      refine ⟨b, L, { m with auc := false }, priceNow { m with auc := false }, rfl, P2.at_, g0, hl, ?_, fun H3 L3 P3 => ?_⟩
      · rw [if_pos c0] at he
        obtain ⟨evs, w1⟩ := (trigAll_ok TA.1).2.2.1
        have he2 : (trigAll (tradeAt (priceNow { m with auc := false }) (m.rs.length + 1) { m with auc := false })).ev.length ≤ sizeLine := he
        rw [w1, List.length_append] at he2
        exact Nat.le_trans (Nat.le_add_right _ _) he2
      · refine fin H3 L3 _ TA.1 ?_ (by rw [if_pos c0]) (P2.trans P3 (fun x z => .inl z) fun x z => ?_)
        · have h1 := TA.2.2.2.1
          have h2 := congrArg List.length TA.2.1
          show (tradeAt _ _ _).rs.length + (tradeAt _ _ _).ws.length ≤ 2000
          rw [h2]
          have h3 : ({ m with auc := false } : B).ws.length = m.ws.length := rfl
          have h4 : ({ m with auc := false } : B).rs.length = m.rs.length := rfl
          omega
        · rcases P2.sub x z with z | z | z
          · exact .inl z
          · exact .inl z
          · exact .inr z
    · have c0 : ¬ 0 < priceNow { m with auc := false } := by have := of_decide_eq_false c; omega
      exact fin H2 L _ g0 hl (by rw [if_neg c0]) P2
end
end SB

/-! ## best_told -/
namespace SB
open PySem PySem.Spec PyProof.Rows L2
def sp_best_told (K : PySem.W.Frag) (A : Ad) : Sp := fun vs H Q _ => ∃ (b : Addr) (L : Ls) (m : B) (buy : Bool), vs = [.ref b, .int (sI buy)] ∧ BookAt A H b L m ∧ m.rs.length < 3000 ∧
  ∀ (H' : Hp) (l : Addr), Same H H' → (∀ x, H' x = none → H x = none) → H l = none → H' l = some (.lst ((side m buy).map nV)) → Q (.ref l) H'
section
variable {P : Program} {w : World} {K : PySem.W.Frag} {mg : Str → Option Value} {base : Heap} {A : Ad}
theorem ok_best_told (T : All K mg A) : FnOk P w K mg base CX0 3 A.f_best_told A.fd_best_told ["self", "side"] (sp_best_told K A) := by
  refine T.F_best_told.ok sc_best_told (fun vs H Q E h => ?_) (fun cdv A' outer s H vs Q E hr h => ?_)
  · obtain ⟨b, L, m, buy, rfl, hb, hl, q⟩ := h
    rfl
  · obtain ⟨b, L, m, buy, rfl, hb, hl, q⟩ := h
    refine ⟨_, (pss_cons (ps_set (i := 2) sc_best_told.nd rfl (Or.inr rfl) (pe_meth (pv 0) T.c_Book T.m_best (ok_best T) (hr.mono (by decide)) T.b_best .nil pass0 (pa_cons (pv 1) pa_nil)))
      (pss_cons (ps_if (pt_cmpR op_isN (pv 2) pe_non (nomark _)) (pss_one (ps_ret (pe_lst (pa_cons pe_int (pa_cons pe_int pa_nil))))) pss_nil)
      (pss_cons (ps_setLc (i := 3) (own := [("order", 4)]) (g := gName 4) (tt := tAnd (tTest (tOp rEq (tFld K (tVar 4) "side") (tVar 1))) (tTest (tOp rEq (tFld K (tVar 4) "price") (tFld K (tVar 2) "price")))) (te := tFld K (tVar 4) "amount") rfl sc_best_told.nd rfl rfl (sw_true rfl rfl rfl (by decide +kernel)) (pi_list (pe_fld (pv 0) rfl)) (blkOk_by (own := [("order", 4)]) (N := N_best_told) (sc := defScope s_best_told) (by decide +kernel)) (fun _ _ _ _ _ => pg_name (i := 4) sc_best_told.nd rfl (Or.inl rfl)) (fun _ _ _ _ _ => pts_one (PW.pt (pw_and (pt_cmpR op_eq (pe_fld (pv 4) rfl) (pv 1) (nomark _)) (pw_and1 (pt_cmpR op_eq (pe_fld (pv 4) rfl) (pe_fld (pv 2) rfl) (nomark _)))))) (fun _ _ _ _ _ => (pe_fld (pv 4) rfl)))
      (pss_one (ps_ret (pe_lst (pa_cons (pe_fld (pv 2) rfl) (pa_cons (pe_callB (cr_sum rfl) (by rfl) T.b_sum (by decide +kernel) (pa_cons (pv 3) pa_nil)) pa_nil)))))))), ?_⟩
    refine ⟨_, rfl, mtB hb (by decide +kernel) ⟨_, rfl, b, L, m, buy, rfl, hb, ?_⟩⟩
    refine ⟨_, rfl, rfl, _, rfl, ?_⟩
    rw [opt_non]
    cases e : SB.best m.rs buy with
    | none =>
      have es : side m buy = [0, 0] := by unfold side; rw [e]
      rw [es] at q
      exact iteT ⟨(by show 2 ≤ sizeLine; decide), fun p hp => q _ p (upd_same_of hp) (fun x z => upd_live z) hp upd_same⟩
    | some o =>
      have es : side m buy = [o.s.price, ((m.rs.filter fun r => r.s.buy == buy && decide (r.s.price = o.s.price)).map fun r => r.s.amount).sum] := by unfold side; rw [e]
      have ho := hb.os o (.inl (best_mem e).1)
      refine iteF ⟨_, rfl, rdB T hb T.n_resting (bf_resting _ _ _ _ _) ⟨L.lr, rfl, ⟨_, SqL.of hb.r⟩, fun D hD => lc_list (K := K) (a := L.lr) (xs := m.rs.map rf) (fun i H' => Same H H' ∧ (∀ x, H' x = none → H x = none) ∧ H' D = some (.lst (((m.rs.take i).filter fun r => r.s.buy == buy && decide (r.s.price = o.s.price)).map fun r => nV r.s.amount)))
        ⟨upd_same_of hD, fun x z => upd_live z, upd_same⟩ (fun i H' _ p => SqL.of (p.1 _ _ hb.r)) ?_ ?_⟩⟩
      · rintro i y H' hi ⟨s1, l1, e1⟩
        obtain ⟨r, hr1, rfl⟩ := at_map hi
        have hm := List.mem_of_getElem? hr1
        have hor := (hb.os r (.inl hm)).same s1
        have e2 : (m.rs.take (i + 1)).filter (fun r => r.s.buy == buy && decide (r.s.price = o.s.price)) = (m.rs.take i).filter (fun r => r.s.buy == buy && decide (r.s.price = o.s.price)) ++ [r].filter (fun r => r.s.buy == buy && decide (r.s.price = o.s.price)) := by
          rw [take_up hr1]
          exact List.filter_append ..
        refine ⟨rfl, _, rfl, rdO T hor T.n_side (ol_side _ _ _ _ _ _ _) ⟨_, rfl, rfl, _, rfl, ?_⟩⟩
        rw [dI, sI_eq]
        refine ifb (fun c => ?_) (fun c => iteF ⟨s1, l1, ?_⟩)
        · refine ⟨_, rfl, rdO T hor T.n_price (ol_price _ _ _ _ _ _ _) ⟨_, rfl, rdO T (ho.same s1) T.n_price (ol_price _ _ _ _ _ _ _) ⟨rfl, _, rfl, ?_⟩⟩⟩
          rw [dI, nat_eq]
          refine ifb (fun d => ⟨_, rfl, rdO T hor T.n_amount (ol_amount _ _ _ _ _ _ _) ⟨_, e1, ?_, ?_, ?_, ?_⟩⟩) (fun d => ⟨s1, l1, ?_⟩)
          · rw [List.length_map]
            exact Nat.lt_of_le_of_lt (Nat.le_trans (List.length_filter_le _ _) (Nat.le_trans (List.take_sublist _ _).length_le (Nat.le_of_lt hl))) (by decide)
          · intro x u e
            rw [upd_ne (ne_of_none e hD)]
            exact s1 x u e
          · exact fun x z => l1 x (upd_live z)
          · rw [upd_same, e2, List.map_append, List.filter_cons, if_pos (by rw [c, d]; rfl)]
            rfl
          · rw [e1, e2, List.filter_cons, if_neg (by rw [d, Bool.and_false]; decide), List.filter_nil, List.append_nil]
        · rw [e1, e2, List.filter_cons, if_neg (by rw [show (r.s.buy == buy) = false from c, Bool.false_and]; decide), List.filter_nil, List.append_nil]
      · rintro H1 ⟨s1, l1, e1⟩
        rw [List.length_map, List.take_length] at e1
        have sums : ∀ l : List Nat, (l.map fun n : Nat => (n : Int)).sum = ((l.sum : Nat) : Int) := fun l => by
          induction l with
          | nil => rfl
          | cons a l ih => rw [List.map_cons, List.sum_cons, ih, List.sum_cons, Int.natCast_add]
        have em : ((m.rs.filter fun r => r.s.buy == buy && decide (r.s.price = o.s.price)).map fun r => nV r.s.amount) = (((m.rs.filter fun r => r.s.buy == buy && decide (r.s.price = o.s.price)).map fun r => r.s.amount).map fun n : Nat => (n : Int)).map V.int := by
          rw [List.map_map, List.map_map]
          rfl
        rw [em] at e1
        refine ⟨_, rfl, rdO T (ho.same s1) T.n_price (ol_price _ _ _ _ _ _ _) ⟨_, rfl, D, _, rfl, SqL.of e1, (by show 2 ≤ sizeLine; decide), fun p hp => ?_⟩⟩
        rw [sums]
        rw [es] at q
        exact q _ p (s1.trans (upd_same_of hp)) (fun x z => l1 x (upd_live z)) (l1 p hp) upd_same
end
end SB

/-! ## looked -/
namespace SB
open PySem PySem.Spec PyProof.Rows L2
def sp_looked (K : PySem.W.Frag) (A : Ad) : Sp := fun vs H Q _ => ∃ (b : Addr) (L : Ls) (m : B), vs = [.ref b] ∧ BookAt A H b L m ∧ m.rs.length < 3000 ∧
  ∀ (H' : Hp) (l : Addr), Same H H' → (∀ x, H' x = none → H x = none) → H l = none → H' l = some (.lst ((seen m).map nV)) → Q (.ref l) H'
section
variable {P : Program} {w : World} {K : PySem.W.Frag} {mg : Str → Option Value} {base : Heap} {A : Ad}
theorem ok_looked (T : All K mg A) : FnOk P w K mg base CX0 4 A.f_looked A.fd_looked ["self"] (sp_looked K A) := by
  refine T.F_looked.ok sc_looked (fun vs H Q E h => ?_) (fun cdv A' outer s H vs Q E hr h => ?_)
  · obtain ⟨b, L, m, rfl, hb, hl, q⟩ := h
    rfl
  · obtain ⟨b, L, m, rfl, hb, hl, q⟩ := h
    refine ⟨_, (pss_cons (ps_set (i := 1) sc_looked.nd rfl (Or.inl rfl) pe_int)
      (pss_cons (ps_if (pt_val (pe_fld (pv 0) rfl)) (pss_one (ps_set (i := 1) sc_looked.nd rfl (Or.inl rfl) (pe_meth0 (pv 0) T.c_Book T.m_price_now (ok_price_now T) (hr.mono (by decide)) T.b_price_now .nil pass0))) pss_nil)
      (pss_one (ps_ret (pe_op op_cat (pe_op op_cat (pe_meth (pv 0) T.c_Book T.m_best_told (ok_best_told T) (hr.mono (by decide)) T.b_best_told .nil pass0 (pa_cons (pe_glob (v := .int (0)) (by rfl) (T.g_BUYS).choose_spec ⟨_, rfl⟩) pa_nil)) (pe_meth (pv 0) T.c_Book T.m_best_told (ok_best_told T) (hr.mono (by decide)) T.b_best_told .nil pass0 (pa_cons (pe_glob (v := .int (1)) (by rfl) (T.g_SELLS).choose_spec ⟨_, rfl⟩) pa_nil))) (pe_lst (pa_cons (pe_fld (pv 0) rfl) (pa_cons (pv 1) pa_nil)))))))), ?_⟩
    have fin : ∀ (z : Nat) (H1 : Hp), z = (if m.auc = true then priceNow m else 0) → Same H H1 → (∀ x, H1 x = none → H x = none) → tRet (tOp rCat (tOp rCat (tMeth A.cB "best_told" (sp_best_told K A) [] E0 (tVar 0) (tCons (tC (.int 0)) tNil)) (tMeth A.cB "best_told" (sp_best_told K A) [] E0 (tVar 0) (tCons (tC (.int 1)) tNil))) (tLst (tCons (tFld K (tVar 0) "latest") (tCons (tVar 1) tNil))))
        { nx := fun _ H' => Q .non H', rt := Q } [some (.ref b), some (nV z)] H1 := fun z H1 ez s1 l1 => by
      have hb1 := hb.same s1
      have len : ∀ u : Bool, (side m u).length = 2 := fun u => by
        unfold side
        split <;> rfl
      refine ⟨_, rfl, mtB hb1 (by decide +kernel) ⟨b, L, m, true, rfl, hb1, hl, fun H2 l2 s2 v2 n2 e2 => ?_⟩⟩
      have hb2 := hb1.same s2
      refine ⟨_, rfl, mtB hb2 (by decide +kernel) ⟨b, L, m, false, rfl, hb2, hl, fun H3 l3 s3 v3 n3 e3 => ?_⟩⟩
      have hb3 := hb2.same s3
      refine ⟨l2, l3, _, _, rfl, rfl, s3 _ _ e2, e3, ?_, fun p hp => ?_⟩
      · rw [List.length_map, List.length_map, len, len]
        decide
      have sp : Same H3 (upd H3 p (.lst ((side m true).map nV ++ (side m false).map nV))) := upd_same_of hp
      have hb4 := hb3.same sp
      refine ⟨_, rfl, rdB T hb4 T.n_latest (bf_latest _ _ _ _ _) ⟨_, rfl, (by show 2 ≤ sizeLine; decide), fun p2 hp2 => ⟨p, p2, (side m true).map nV ++ (side m false).map nV, _, rfl, rfl, ?_, upd_same, ?_, fun p3 hp3 => ?_⟩⟩⟩
      · rw [upd_ne (ne_of_none upd_same hp2)]
        exact upd_same
      · rw [List.length_append, List.length_map, List.length_map, len, len]
        show 2 + 2 + 2 ≤ sizeLine
        decide
      · have l4 : ∀ x, H3 x = none → H x = none := fun x z => l1 x (v2 x (v3 x z))
        refine q _ p3 ((((s1.trans s2).trans s3).trans sp).trans ((upd_same_of hp2).trans (upd_same_of hp3))) (fun x z => l4 x (upd_live (upd_live (upd_live z)))) (l4 p3 (upd_live (upd_live hp3))) ?_
        rw [upd_same]
        unfold seen
        rw [List.map_append, List.map_append, ez]
        rfl
    refine ⟨_, rfl, rdB T hb T.n_auction (bf_auction _ _ _ _ _) ⟨_, rfl, ?_⟩⟩
    refine ifb (fun c => ?_) (fun c => fin 0 H (by rw [c]; rfl) (Same.refl H) (fun x z => z))
    refine ⟨_, rfl, mtB hb (by decide +kernel) ?_⟩
    exact ⟨b, L, m, rfl, hb, by omega, fun H1 s1 l1 => fin (priceNow m) H1 (by rw [c]; rfl) s1 l1⟩
end
end SB

/-! ## events_told -/
namespace SB
open PySem PySem.Spec PyProof.Rows L2
def sp_events_told (K : PySem.W.Frag) (A : Ad) : Sp := fun vs H Q _ => ∃ (b : Addr) (L : Ls) (m : B), vs = [.ref b] ∧ BookAt A H b L m ∧ (toldOf m.ev).length ≤ sizeLine ∧
  ∀ (H' : Hp) (L' : Ls) (l : Addr), Post A b (fun x => x = b) H L m H' L' m.clear → H l = none → H' l = some (.lst ((toldOf m.ev).map V.int)) → ¬ Ft b L' m.clear l → Q (.ref l) H'
section
variable {P : Program} {w : World} {K : PySem.W.Frag} {mg : Str → Option Value} {base : Heap} {A : Ad}
theorem ok_events_told (T : All K mg A) : FnOk P w K mg base CX0 1 A.f_events_told A.fd_events_told ["book"] (sp_events_told K A) := by
  refine T.F_events_told.ok sc_events_told (fun vs H Q E h => ?_) (fun cdv A' outer s H vs Q E hr h => ?_)
  · obtain ⟨b, L, m, rfl, hb, hl, q⟩ := h
    rfl
  · obtain ⟨b, L, m, rfl, hb, hl, q⟩ := h
    refine ⟨_, (pss_cons (ps_set (i := 1) sc_events_told.nd rfl (Or.inl rfl) (pe_lst (pa_cons (pe_callB call_len_seq (by rfl) T.b_len (by decide +kernel) (pa_cons (pe_fld (pv 0) rfl) pa_nil)) pa_nil)))
      (pss_cons (ps_for PassesOwn.never rfl (pi_list (pe_fld (pv 0) rfl)) (pg_name (i := 2) sc_events_told.nd rfl (Or.inl rfl)) (pss_one (ps_expr (pe_bm PySem.F.plainAttrs_list PySem.F.slot_list_extend PySem.F.type_list_extend mt_extend (pv 1) (pa_cons (pv 2) pa_nil)))))
      (pss_cons (ps_fld (pv 0) (pe_lst pa_nil) rfl)
      (pss_one (ps_ret (pv 1)))))), ?_⟩
    obtain ⟨es, e1, e2⟩ := hb.e
    have nlen : ((es.map V.ref).length : Int) = (m.ev.length : Int) := by rw [List.length_map, e2.1]
    refine ⟨_, rfl, rdB T hb T.n_events (bf_events _ _ _ _ _) ⟨L.le, _, rfl, .inl (SqL.of e1), (by show 1 ≤ sizeLine; decide), fun D hD => ?_⟩⟩
    rw [nlen]
    have s0 : Same H (upd H D (.lst [.int m.ev.length])) := upd_same_of hD
    have pre : ∀ i : Nat, i < m.ev.length → ∀ v, m.ev[i]? = some v → (toldOf (m.ev.take i)).length + (evV v).length ≤ sizeLine := fun i lt v hv => by
      have h1 : ∀ l : List Sd17.Ev, (toldOf l).length = 1 + (l.flatMap Sd17.numbers).length := fun l => by
        unfold toldOf
        rw [List.length_cons, List.length_map]
        omega
      have h2 : m.ev.flatMap Sd17.numbers = (m.ev.take i).flatMap Sd17.numbers ++ (Sd17.numbers v ++ (m.ev.drop (i + 1)).flatMap Sd17.numbers) := by
        obtain ⟨lt, e⟩ := List.getElem?_eq_some_iff.mp hv
        have q := List.drop_eq_getElem_cons lt
        rw [e] at q
        conv => lhs; rw [← List.take_append_drop i m.ev, q]
        rw [List.flatMap_append, List.flatMap_cons]
      rw [h1, h2, List.length_append, List.length_append] at hl
      rw [h1]
      have h3 : (evV v).length = (Sd17.numbers v).length := List.length_map _
      omega
    refine ⟨_, rfl, rdB T (hb.same s0) T.n_events (bf_events _ _ _ _ _) ⟨L.le, rfl, ⟨_, SqL.of (s0 _ _ e1)⟩, for_list (K := K) (a := L.le) (xs := es.map V.ref) (fun i σ H' => ∃ u : Option V, σ = [some (.ref b), some (.ref D), u] ∧ Same H H' ∧ (∀ x, H' x = none → H x = none) ∧ H' D = some (.lst (.int m.ev.length :: ((m.ev.take i).flatMap Sd17.numbers).map nV)))
      ⟨none, rfl, s0, fun x z => upd_live z, upd_same⟩ (fun i σ H' _ p => ?_) ?_ ?_⟩⟩
    · obtain ⟨u, _, s1, _⟩ := p
      exact SqL.of (s1 _ _ e1)
    · rintro i y σ H' hi ⟨u, rfl, s1, l1, ed⟩
      obtain ⟨a, ha, rfl⟩ := at_map hi
      obtain ⟨v, hv, ea⟩ := e2.2 i a ha
      have lt : i < m.ev.length := (List.getElem?_eq_some_iff.mp hv).1
      refine ⟨_, rfl, .inl ⟨rfl, _, SqL.of ed⟩, _, rfl, D, a, _, _, rfl, rfl, ed, s1 _ _ ea, ?_, ?_⟩
      · have := pre i lt v hv
        unfold toldOf at this
        rw [List.length_cons, List.length_map] at this ⊢
        have h3 : (evV v).length = (Sd17.numbers v).length := List.length_map _
        omega
      · refine ⟨some (.ref a), rfl, fun x o e => ?_, fun x z => l1 x (upd_live z), ?_⟩
        · rw [upd_ne (ne_of_none e hD)]
          exact s1 x o e
        · rw [upd_same, take_up hv, List.flatMap_append, List.map_append, List.flatMap_cons, List.flatMap_nil, List.append_nil]
          rfl
    · rintro σ H' ⟨u, rfl, s1, l1, ed⟩
      rw [List.length_map, e2.1, List.take_length] at ed
      have hb1 := hb.same s1
      refine ⟨Nat.zero_le _, fun l nl => ⟨_, rfl, wrB T (hb1.same (upd_same_of nl)) T.n_events fun dx e => ?_⟩⟩
      rw [bp_events]
      have P := clear_post hb1 nl dx
      have nFD : ¬ Ft b L m D := hb.new hD
      have hDb : D ≠ b := fun z => nFD (.inl z)
      refine ⟨_, rfl, q _ _ D ((Post.same s1 hb l1 hb1).trans (X := fun _ => False) P (fun x z => z.elim) (fun x z => .inl z)) hD ?_ (P.ft ed nFD hDb)⟩
      rw [P.fr _ _ ed hDb]
      unfold toldOf
      rw [List.map_cons, List.map_map]
      rfl
end
end SB

/-! ## order_told -/
namespace SB
open PySem PySem.Spec PyProof.Rows L2
def sp_order_told (K : PySem.W.Frag) (A : Ad) : Sp := fun vs H Q _ => ∃ (b : Addr) (L : Ls) (m : B) (a : Addr) (nu ow si ki pr am tr : Int), vs = [.ref b, .ref a] ∧ BookAt A H b L m ∧ Gd [] m ∧ nu < 2 ^ 31 ∧ m.rs.length + m.ws.length ≤ 1024 ∧ SqL K H a [.int nu, .int ow, .int si, .int ki, .int pr, .int am, .int tr] ∧
  (∀ x : Addr, Fresh m x → (orderM m x nu ow si ki pr am tr).2.length ≤ sizeLine) ∧
  ∀ (H' : Hp) (L' : Ls) (l x : Addr), Fresh m x → Post A b (fun x => Ft b L m x) H L m H' L' (orderM m x nu ow si ki pr am tr).1 → H l = none → H' l = some (.lst ((orderM m x nu ow si ki pr am tr).2.map V.int)) → ¬ Ft b L' (orderM m x nu ow si ki pr am tr).1 l → Q (.ref l) H'
section
variable {P : Program} {w : World} {K : PySem.W.Frag} {mg : Str → Option Value} {base : Heap} {A : Ad}
theorem ok_order_told (T : All K mg A) : FnOk P w K mg base CX0 8 A.f_order_told A.fd_order_told ["book", "numbers"] (sp_order_told K A) := by
  refine T.F_order_told.ok sc_order_told (fun vs H Q E h => ?_) (fun cdv A' outer s H vs Q E hr h => ?_)
  · obtain ⟨b, L, m, a, nu, ow, si, ki, pr, am, tr, rfl, hb, g, hn, hl, hs, he, q⟩ := h
    rfl
  · obtain ⟨b, L, m, a, nu, ow, si, ki, pr, am, tr, rfl, hb, g, hn, hl, hs, he, q⟩ := h
    refine ⟨_, (pss_cons (ps_if (PW.pt (pw_or (pt_not (pt_val (pe_call (ok_is_order T) (hr.mono (by decide)) (by rfl) T.g_is_order T.k_is_order T.b_is_order .nil pass0 (pa_cons (pv 1) pa_nil)))) (pw_or1 (pt_cmpR op_notN (pe_meth (pv 0) T.c_Book T.m_any_order (ok_any_order T) (hr.mono (by decide)) T.b_any_order .nil pass0 (pa_cons (pe_ix ix_list (pv 1) pe_int (fun _ _ => rfl)) pa_nil)) pe_non (nomark _))))) (pss_one (ps_ret (pe_lst (pa_cons (pe_glob (v := .int (-1)) (by rfl) (T.g_WRONG).choose_spec ⟨_, rfl⟩) pa_nil)))) pss_nil)
      (pss_cons (ps_if (pt_cmpR op_ge (pe_op op_add (pe_callB call_len_seq (by rfl) T.b_len (by decide +kernel) (pa_cons (pe_fld (pv 0) rfl) pa_nil)) (pe_callB call_len_seq (by rfl) T.b_len (by decide +kernel) (pa_cons (pe_fld (pv 0) rfl) pa_nil))) (pe_glob (v := .int (1024)) (by rfl) (T.g_MOST_ORDERS).choose_spec ⟨_, rfl⟩) (nomark _)) (pss_one (ps_ret (pe_lst (pa_cons (pe_glob (v := .int (-2)) (by rfl) (T.g_NOT_NOW).choose_spec ⟨_, rfl⟩) pa_nil)))) pss_nil)
      (pss_cons (ps_if (PW.pt (pw_and (pt_val (pe_fld (pv 0) rfl)) (pw_and1 (pt_chain op_le op_le (pe_glob (v := .int (1)) (by rfl) (T.g_MARKET).choose_spec ⟨_, rfl⟩) (pe_ix ix_list (pv 1) pe_int (fun _ _ => rfl)) (pe_glob (v := .int (4)) (by rfl) (T.g_ONLY_REST).choose_spec ⟨_, rfl⟩))))) (pss_one (ps_ret (pe_lst (pa_cons (pe_glob (v := .int (-2)) (by rfl) (T.g_NOT_NOW).choose_spec ⟨_, rfl⟩) pa_nil)))) pss_nil)
      (pss_cons (ps_expr (pe_meth (pv 0) T.c_Book T.m_take (ok_take T) (hr.mono (by decide)) T.b_take .nil pass0 (pa_cons (pe_call (ok_order_of T) (hr.mono (by decide)) (by rfl) T.g_order_of T.k_order_of T.b_order_of .nil pass0 (pa_cons (pv 1) pa_nil)) pa_nil)))
      (pss_one (ps_ret (pe_call (ok_events_told T) (hr.mono (by decide)) (by rfl) T.g_events_told T.k_events_told T.b_events_told .nil pass0 (pa_cons (pv 0) pa_nil)))))))), ?_⟩
    have eh : ((m.rs ++ m.ws).find? fun o => decide ((o.s.id : Int) = nu)) = has (m.rs ++ m.ws) nu := rfl
    have refuse : ∀ (v : Int), (∀ x, orderM m x nu ow si ki pr am tr = (m, [v])) → ∀ H1 : Hp, Same H H1 → (∀ x, H1 x = none → H x = none) → tRet (tLst (tCons (tC (.int v)) tNil)) { nx := fun _ H' => Q .non H', rt := Q } [some (.ref b), some (.ref a)] H1 := fun v e H1 s1 l1 => by
      refine ⟨(by show 1 ≤ sizeLine; decide), fun l nl => ?_⟩
      obtain ⟨x0, fx0⟩ := fresh_in m
      have qq := fun H' L' l => q H' L' l x0 fx0
      rw [e] at qq
      have s2 : Same H (upd H1 l (.lst [.int v])) := s1.trans (upd_same_of nl)
      exact qq _ L l ((Post.same s2 hb (fun x z => l1 x (upd_live z)) (hb.same s2)).mono (X := fun _ => False) fun x z => z.elim) (l1 l nl) upd_same ((hb.same s1).new nl)
    refine ⟨_, rfl, a, nu, ow, si, ki, pr, am, tr, rfl, hs, _, rfl, ?_⟩
    refine ifb (fun c => iteT (refuse (-1) (fun x => ?_) H (Same.refl H) (fun x z => z))) (fun c => ?_)
    · unfold orderM
      rw [not_t c]
      rfl
    have io := not_f c
    refine ⟨_, rfl, mtB hb (by decide +kernel) ⟨_, rfl, a, _, 0, _, rfl, rfl, hs, at_of (j := 0) rfl rfl, ?_⟩⟩
    refine ⟨b, L, m, nu, rfl, hb, by omega, fun H1 s1 l1 => ⟨rfl, _, rfl, ?_⟩⟩
    rw [eh, opt_non]
    have hb1 := hb.same s1
    cases hh : has (m.rs ++ m.ws) nu with
    | some o =>
      refine iteT (refuse (-1) (fun x => ?_) H1 s1 l1)
      unfold orderM
      rw [io, hh]
      rfl
    | none =>
      have step1 : ∀ x, orderM m x nu ow si ki pr am tr = if 1024 ≤ m.rs.length + m.ws.length then (m, [-2]) else if (m.auc && (decide (1 ≤ ki) && decide (ki ≤ 4))) = true then (m, [-2]) else saysM (take m (mkO x nu ow si ki pr am tr)) := fun x => by
        unfold orderM
        rw [io, hh]
        rfl
      refine iteF ⟨_, rfl, rdB T hb1 T.n_resting (bf_resting _ _ _ _ _) ⟨L.lr, _, rfl, .inl (SqL.of hb1.r), _, rfl, rdB T hb1 T.n_waiting (bf_waiting _ _ _ _ _) ⟨L.lw, _, rfl, .inl (SqL.of hb1.w), _, _, rfl, rfl, _, _, rfl, rfl, _, rfl, ?_⟩⟩⟩
      have elen : (((m.rs.map rf).length : Int) + ((m.ws.map rf).length : Int)) = ((m.rs.length + m.ws.length : Nat) : Int) := by
        rw [List.length_map, List.length_map]
        omega
      rw [elen]
      refine ifb (fun d => ?_) (fun d => ?_)
      · have d0 : 1024 ≤ m.rs.length + m.ws.length := by have := of_decide_eq_true d; omega
        exact refuse (-2) (fun x => by rw [step1, if_pos d0]) H1 s1 l1
      have d0 : ¬ 1024 ≤ m.rs.length + m.ws.length := by have := of_decide_eq_false d; omega
      have step2 : ∀ x, orderM m x nu ow si ki pr am tr = if (m.auc && (decide (1 ≤ ki) && decide (ki ≤ 4))) = true then (m, [-2]) else saysM (take m (mkO x nu ow si ki pr am tr)) := fun x => by rw [step1, if_neg d0]
      have go : (m.auc && (decide (1 ≤ ki) && decide (ki ≤ 4))) = false → tSeq (tDrop (tMeth A.cB "take" (sp_take K A) [] E0 (tVar 0) (tCons (tCall (sp_order_of K A) [] E0 (tCons (tVar 1) tNil)) tNil))) (tRet (tCall (sp_events_told K A) [] E0 (tCons (tVar 0) tNil))) { nx := fun _ H' => Q .non H', rt := Q } [some (.ref b), some (.ref a)] H1 := fun f => by
        have step3 : ∀ x, orderM m x nu ow si ki pr am tr = saysM (take m (mkO x nu ow si ki pr am tr)) := fun x => by rw [step2, f]; rfl
        refine ⟨_, rfl, mtB hb1 (by decide +kernel) ⟨_, rfl, a, nu, ow, si, ki, pr, am, tr, rfl, s1.seq hs, fun H2 x nx s2 ex l2 => ?_⟩⟩
        obtain ⟨dx, ex⟩ := ex
        have hb2 := hb1.same s2
        have fx : Fresh m x := ⟨fun z => hb1.new nx (.inr (.inr (.inr (.inr (.inl z))))), fun z => hb1.new nx (.inr (.inr (.inr (.inr (.inr z)))))⟩
        have C := cells x io
        have eF : oF (mkO x nu ow si ki pr am tr) = oL nu ow si ki (if priced ki = true then pr else 0) am tr := by
          show oL ((mkO x nu ow si ki pr am tr).s.id : Int) ((mkO x nu ow si ki pr am tr).s.who : Int) (if (mkO x nu ow si ki pr am tr).s.buy = true then 0 else 1) ki ((mkO x nu ow si ki pr am tr).s.price : Int) ((mkO x nu ow si ki pr am tr).s.amount : Int) tr = _
          rw [C.id, C.who, C.side, C.price, C.am]
        have ho2 : OrdAt A H2 (mkO x nu ow si ki pr am tr) := ⟨dx, ex.trans (by rw [← eF])⟩
        have G := mk_gd g fx io hh
        have TK := made_take x io
        have G1 := take1_gd G TK fun u => by
          rw [u, Bool.true_and] at f
          have io' := (isOrd_iff _ _ _ _ _ _ _).mp io
          have nk : ¬ (1 ≤ ki ∧ ki ≤ 4) := fun z => by
            rw [decide_eq_true z.1, decide_eq_true z.2] at f
            cases f
          show ki = 0 ∨ ki = 5 ∨ ki = 6
          omega
        have h1 := he x fx
        rw [step3] at h1
        have h2 : (toldOf (take m (mkO x nu ow si ki pr am tr)).ev).length ≤ sizeLine := h1
        refine ⟨b, L, m, mkO x nu ow si ki pr am tr, rfl, hb2, ho2, G1, G, by omega, ?_, fun H3 L3 P3 => ?_⟩
        · unfold toldOf at h2
          rw [List.length_cons, List.length_map] at h2
          have h3 : ∀ l : List Sd17.Ev, l.length ≤ (l.flatMap Sd17.numbers).length := fun l => by
            induction l with
            | nil => exact Nat.le_refl _
            | cons v l ih =>
              rw [List.flatMap_cons, List.length_append, List.length_cons]
              have : 1 ≤ (Sd17.numbers v).length := by cases v <;> exact Nat.le_add_left 1 5
              omega
          have := h3 (take m (mkO x nu ow si ki pr am tr)).ev
          omega
        · have s02 := s1.trans s2
          have P0 : Post A b (fun x => Ft b L m x) H L m H2 L m := Post.same s02 hb (fun x z => l1 x (l2 x z)) hb2
          refine ⟨_, rfl, b, L3, _, rfl, P3.at_, h2, fun H4 L4 l P4 nl el nF => ?_⟩
          have q3 := q H4 L4 l x fx
          rw [step3] at q3
          refine q3 ?_ (l1 l (l2 l (P3.live l nl))) el nF
          refine (P0.trans (Z := fun x => Ft b L m x) P3 (fun x z => .inl z) (fun y z => z.elim .inl fun z => .inr (by rw [z]; exact l1 x nx))).trans P4 (fun x z => .inl z) (fun x z => .inl (.inl z))
      refine ⟨_, rfl, rdB T hb1 T.n_auction (bf_auction _ _ _ _ _) ⟨_, rfl, ?_⟩⟩
      refine ifb (fun f => ?_) (fun f => iteF (go (by rw [f]; rfl)))
      refine ⟨_, rfl, a, _, 3, _, rfl, rfl, s1.seq hs, at_of (j := 3) rfl rfl, _, _, rfl, rfl, _, rfl, ?_⟩
      refine ifb (fun f1 => ⟨_, _, rfl, rfl, _, rfl, ?_⟩) (fun f1 => ⟨_, rfl, iteF (go (by rw [f1]; simp))⟩)
      refine ifb (fun f2 => ?_) (fun f2 => go (by rw [f2]; simp))
      exact refuse (-2) (fun x => by rw [step2, f, f1, f2]; rfl) H1 s1 l1
end
end SB

/-! ## cancel_told -/
namespace SB
open PySem PySem.Spec PyProof.Rows L2
def sp_cancel_told (K : PySem.W.Frag) (A : Ad) : Sp := fun vs H Q _ => ∃ (b : Addr) (L : Ls) (m : B) (n : Int), vs = [.ref b, .int n] ∧ BookAt A H b L m ∧ m.rs.length + m.ws.length ≤ 1024 ∧ m.ev.length < sizeLine ∧ (cancelM m n).2.length ≤ sizeLine ∧
  ∀ (H' : Hp) (L' : Ls) (l : Addr), Post A b (fun x => Ft b L m x) H L m H' L' (cancelM m n).1 → H l = none → H' l = some (.lst ((cancelM m n).2.map V.int)) → ¬ Ft b L' (cancelM m n).1 l → Q (.ref l) H'
section
variable {P : Program} {w : World} {K : PySem.W.Frag} {mg : Str → Option Value} {base : Heap} {A : Ad}
theorem ok_cancel_told (T : All K mg A) : FnOk P w K mg base CX0 4 A.f_cancel_told A.fd_cancel_told ["book", "number"] (sp_cancel_told K A) := by
  refine T.F_cancel_told.ok sc_cancel_told (fun vs H Q E h => ?_) (fun cdv A' outer s H vs Q E hr h => ?_)
  · obtain ⟨b, L, m, n, rfl, hb, hl, hev, he, q⟩ := h
    rfl
  · obtain ⟨b, L, m, n, rfl, hb, hl, hev, he, q⟩ := h
    refine ⟨_, (pss_cons (ps_set (i := 2) sc_cancel_told.nd rfl (Or.inl rfl) (pe_meth (pv 0) T.c_Book T.m_any_order (ok_any_order T) (hr.mono (by decide)) T.b_any_order .nil pass0 (pa_cons (pv 1) pa_nil)))
      (pss_cons (ps_if (pt_cmpR op_isN (pv 2) pe_non (nomark _)) (pss_one (ps_ret (pe_lst (pa_cons (pe_glob (v := .int (-1)) (by rfl) (T.g_WRONG).choose_spec ⟨_, rfl⟩) pa_nil)))) pss_nil)
      (pss_cons (ps_expr (pe_meth (pv 0) T.c_Book T.m_cancel (ok_cancel T) (hr.mono (by decide)) T.b_cancel .nil pass0 (pa_cons (pv 2) pa_nil)))
      (pss_one (ps_ret (pe_call (ok_events_told T) (hr.mono (by decide)) (by rfl) T.g_events_told T.k_events_told T.b_events_told .nil pass0 (pa_cons (pv 0) pa_nil))))))), ?_⟩
    refine ⟨_, rfl, mtB hb (by decide +kernel) ⟨_, rfl, b, L, m, n, rfl, hb, by omega, fun H1 s1 l1 => ?_⟩⟩
    have hb1 := hb.same s1
    have P0 : Post A b (fun x => Ft b L m x) H L m H1 L m := Post.same s1 hb l1 hb1
    refine ⟨_, rfl, rfl, _, rfl, ?_⟩
    have eh : ((m.rs ++ m.ws).find? fun o => decide ((o.s.id : Int) = n)) = has (m.rs ++ m.ws) n := rfl
    rw [eh, opt_non]
    unfold cancelM at he q
    cases e : has (m.rs ++ m.ws) n with
    | none =>
      rw [e] at q
      refine iteT ⟨(by show 1 ≤ sizeLine; decide), fun l nl => ?_⟩
      have s2 : Same H1 (upd H1 l (.lst [.int (-1)])) := upd_same_of nl
      exact q _ L l (P0.trans (X := fun x => Ft b L m x) (Y := fun _ => False) (Post.same s2 hb1 (fun x z => upd_live z) (hb1.same s2)) (fun x z => .inl z) (fun x z => z.elim)) (l1 l nl) upd_same (hb1.new nl)
    | some o =>
      rw [e] at q he
      obtain ⟨hm, hn⟩ := has_mem e
      have ho := hb1.os o (List.mem_append.mp hm)
      refine iteF ⟨_, rfl, mtB hb1 (by decide +kernel) ⟨_, rfl, ?_⟩⟩
      refine ⟨b, L, m, o, rfl, hb1, ho, by omega, hev, fun H2 L2 P2 => ?_⟩
      refine ⟨_, rfl, b, L2, _, rfl, P2.at_, he, fun H3 L3 l P3 nl el nF => ?_⟩
      refine q H3 L3 l ?_ (l1 l (P2.live l nl)) el nF
      exact (P0.trans (Z := fun x => Ft b L m x) P2 (fun x z => .inl z) (fun x z => .inl (z.elim .inl fun z => .inr (.inr (.inr (.inl z)))))).trans P3 (fun x z => .inl z) (fun x z => .inl (.inl z))
end
end SB

/-! ## change_told -/
namespace SB
open PySem PySem.Spec PyProof.Rows L2
def sp_change_told (K : PySem.W.Frag) (A : Ad) : Sp := fun vs H Q _ => ∃ (b : Addr) (L : Ls) (m : B) (n p a : Int), vs = [.ref b, .int n, .int p, .int a] ∧ BookAt A H b L m ∧ Gd [] m ∧ m.rs.length + m.ws.length ≤ 1024 ∧
  (∀ x : Addr, Fresh m x → (changeM m x n p a).2.length ≤ sizeLine) ∧
  ∀ (H' : Hp) (L' : Ls) (l x : Addr), Fresh m x → Post A b (fun x => Ft b L m x) H L m H' L' (changeM m x n p a).1 → H l = none → H' l = some (.lst ((changeM m x n p a).2.map V.int)) → ¬ Ft b L' (changeM m x n p a).1 l → Q (.ref l) H'
section
variable {P : Program} {w : World} {K : PySem.W.Frag} {mg : Str → Option Value} {base : Heap} {A : Ad}
theorem ok_change_told (T : All K mg A) : FnOk P w K mg base CX0 9 A.f_change_told A.fd_change_told ["book", "number", "price", "amount"] (sp_change_told K A) := by
  refine T.F_change_told.ok sc_change_told (fun vs H Q E h => ?_) (fun cdv A' outer s H vs Q E hr h => ?_)
  · obtain ⟨b, L, m, n, p, a, rfl, hb, g, hl, he, q⟩ := h
    rfl
  · obtain ⟨b, L, m, n, p, a, rfl, hb, g, hl, he, q⟩ := h
    refine ⟨_, (pss_cons (ps_set (i := 4) sc_change_told.nd rfl (Or.inl rfl) (pe_meth (pv 0) T.c_Book T.m_resting_order (ok_resting_order T) (hr.mono (by decide)) T.b_resting_order .nil pass0 (pa_cons (pv 1) pa_nil)))
      (pss_cons (ps_if (PW.pt (pw_or (pt_cmpR op_isN (pv 4) pe_non (nomark _)) (pw_or (pt_not (pt_val (pe_call (ok_is_amount T) (hr.mono (by decide)) (by rfl) T.g_is_amount T.k_is_amount T.b_is_amount .nil pass0 (pa_cons (pv 2) pa_nil)))) (pw_or1 (pt_not (pt_val (pe_call (ok_is_amount T) (hr.mono (by decide)) (by rfl) T.g_is_amount T.k_is_amount T.b_is_amount .nil pass0 (pa_cons (pv 3) pa_nil)))))))) (pss_one (ps_ret (pe_lst (pa_cons (pe_glob (v := .int (-1)) (by rfl) (T.g_WRONG).choose_spec ⟨_, rfl⟩) pa_nil)))) pss_nil)
      (pss_cons (ps_expr (pe_meth (pv 0) T.c_Book T.m_change (ok_change T) (hr.mono (by decide)) T.b_change .nil pass0 (pa_cons (pv 4) (pa_cons (pv 2) (pa_cons (pv 3) pa_nil)))))
      (pss_one (ps_ret (pe_call (ok_events_told T) (hr.mono (by decide)) (by rfl) T.g_events_told T.k_events_told T.b_events_told .nil pass0 (pa_cons (pv 0) pa_nil))))))), ?_⟩
    have eh : (m.rs.find? fun o => decide ((o.s.id : Int) = n)) = has m.rs n := rfl
    have wrong : (∀ x, changeM m x n p a = (m, [-1])) → tRet (tLst (tCons (tC (.int (-1))) tNil)) { nx := fun _ H' => Q .non H', rt := Q } [some (.ref b), some (.int n), some (.int p), some (.int a), some (optV (has m.rs n))] H := fun e => by
      refine ⟨(by show 1 ≤ sizeLine; decide), fun l nl => ?_⟩
      obtain ⟨x0, fx0⟩ := fresh_in m
      have qq := fun H' L' l => q H' L' l x0 fx0
      rw [e] at qq
      have s2 : Same H (upd H l (.lst [.int (-1)])) := upd_same_of nl
      exact qq _ L l ((Post.same s2 hb (fun x z => upd_live z) (hb.same s2)).mono (X := fun _ => False) fun x z => z.elim) nl upd_same (hb.new nl)
    refine ⟨_, rfl, mtB hb (by decide +kernel) ⟨_, rfl, b, L, m, n, rfl, hb, ?_⟩⟩
    rw [eh]
    refine ⟨_, rfl, rfl, _, rfl, ?_⟩
    rw [opt_non]
    cases e : has m.rs n with
    | none =>
      rw [e] at wrong
      exact iteT (iteT (wrong fun x => by unfold changeM; rw [e]))
    | some o =>
      rw [e] at wrong
      have ec : ∀ x, changeM m x n p a = if (priceOk p && priceOk a) = true then saysM (change m o x p.toNat a.toNat) else (m, [-1]) := fun x => by unfold changeM; rw [e]
      obtain ⟨hm, hn⟩ := has_mem e
      refine iteF ⟨_, rfl, p, rfl, _, rfl, ?_⟩
      refine ifb (fun c => iteT (wrong fun x => by rw [ec, not_t c]; rfl)) (fun c => ?_)
      refine ⟨_, rfl, a, rfl, _, rfl, ?_⟩
      refine ifb (fun d => wrong fun x => by rw [ec, not_t d, Bool.and_false]; rfl) (fun d => ?_)
      have c1 := not_f c
      have d1 := not_f d
      have ec2 : ∀ x, changeM m x n p a = saysM (change m o x p.toNat a.toNat) := fun x => by rw [ec, c1, d1]; rfl
      have c2 := (priceOk_iff p).mp c1
      have d2 := (priceOk_iff a).mp d1
      have ep : p = ((p.toNat : Nat) : Int) := by omega
      have ea : a = ((a.toNat : Nat) : Int) := by omega
      refine ⟨_, rfl, mtB hb (by decide +kernel) ⟨_, rfl, _, rfl, _, rfl, ?_⟩⟩
      refine ⟨b, L, m, o, p.toNat, a.toNat, ?_, hb, hm, g, by omega, by omega, by omega, fun x fx => ?_, fun H2 L2 x fx P2 => ?_⟩
      · show [V.ref b, rf o, V.int p, V.int a] = [V.ref b, rf o, V.int (p.toNat : Int), V.int (a.toNat : Int)]
        rw [← ep, ← ea]
      · have h1 := he x fx
        rw [ec2] at h1
        have h2 : (toldOf (change m o x p.toNat a.toNat).ev).length ≤ sizeLine := h1
        unfold toldOf at h2
        rw [List.length_cons, List.length_map] at h2
        have h3 : ∀ l : List Sd17.Ev, l.length ≤ (l.flatMap Sd17.numbers).length := fun l => by
          induction l with
          | nil => exact Nat.le_refl _
          | cons v l ih =>
            rw [List.flatMap_cons, List.length_append, List.length_cons]
            have : 1 ≤ (Sd17.numbers v).length := by cases v <;> exact Nat.le_add_left 1 5
            omega
        have := h3 (change m o x p.toNat a.toNat).ev
        omega
      · have h1 := he x fx
        have qq := q
        refine ⟨_, rfl, b, L2, _, rfl, P2.at_, ?_, fun H3 L3 l P3 nl el nF => ?_⟩
        · rw [ec2] at h1
          exact h1
        · have q3 := q H3 L3 l x fx
          rw [ec2] at q3
          exact q3 (P2.trans P3 (fun x z => .inl z) (fun x z => .inl (.inl z))) (P2.live l nl) el nF
end
end SB

/-! ## auction_told -/
namespace SB
open PySem PySem.Spec PyProof.Rows L2
def sp_auction_told (K : PySem.W.Frag) (A : Ad) : Sp := fun vs H Q _ => ∃ (b : Addr) (L : Ls) (m : B) (n : Int), vs = [.ref b, .int n] ∧ BookAt A H b L m ∧ Gd [] m ∧ m.rs.length + m.ws.length ≤ 1024 ∧ (auctionM m n).2.length ≤ sizeLine ∧
  ∀ (H' : Hp) (L' : Ls) (l : Addr), Post A b (fun x => Ft b L m x) H L m H' L' (auctionM m n).1 → H l = none → H' l = some (.lst ((auctionM m n).2.map V.int)) → ¬ Ft b L' (auctionM m n).1 l → Q (.ref l) H'
section
variable {P : Program} {w : World} {K : PySem.W.Frag} {mg : Str → Option Value} {base : Heap} {A : Ad}
theorem ok_auction_told (T : All K mg A) : FnOk P w K mg base CX0 8 A.f_auction_told A.fd_auction_told ["book", "on"] (sp_auction_told K A) := by
  refine T.F_auction_told.ok sc_auction_told (fun vs H Q E h => ?_) (fun cdv A' outer s H vs Q E hr h => ?_)
  · obtain ⟨b, L, m, n, rfl, hb, g, hl, he, q⟩ := h
    rfl
  · obtain ⟨b, L, m, n, rfl, hb, g, hl, he, q⟩ := h
    refine ⟨_, (pss_cons (ps_if (pt_cmpR op_eq (pe_fld (pv 0) rfl) (pe_cmpR op_ne (pv 1) pe_int (nomark _)) (nomark _)) (pss_one (ps_ret (pe_lst (pa_cons (pe_glob (v := .int (-1)) (by rfl) (T.g_WRONG).choose_spec ⟨_, rfl⟩) pa_nil)))) pss_nil)
      (pss_cons (ps_if (pt_cmpR op_ne (pv 1) pe_int (nomark _)) (pss_one (ps_expr (pe_meth0 (pv 0) T.c_Book T.m_begin_auction (ok_begin_auction T) (hr.mono (by decide)) T.b_begin_auction .nil pass0))) (pss_one (ps_expr (pe_meth0 (pv 0) T.c_Book T.m_end_auction (ok_end_auction T) (hr.mono (by decide)) T.b_end_auction .nil pass0))))
      (pss_one (ps_ret (pe_call (ok_events_told T) (hr.mono (by decide)) (by rfl) T.g_events_told T.k_events_told T.b_events_told .nil pass0 (pa_cons (pv 0) pa_nil)))))), ?_⟩
    have says : ∀ m' : B, auctionM m n = saysM m' → ∀ (H2 : Hp) (L2 : Ls), Post A b (fun x => Ft b L m x) H L m H2 L2 m' → tRet (tCall (sp_events_told K A) [] E0 (tCons (tVar 0) tNil)) { nx := fun _ H' => Q .non H', rt := Q } [some (.ref b), some (.int n)] H2 := fun m' e H2 L2 P2 => by
      rw [e] at he q
      refine ⟨_, rfl, b, L2, m', rfl, P2.at_, he, fun H3 L3 l P3 nl el nF => ?_⟩
      exact q H3 L3 l (P2.trans P3 (fun x z => .inl z) (fun x z => .inl (.inl z))) (P2.live l nl) el nF
    refine ⟨_, rfl, rdB T hb T.n_auction (bf_auction _ _ _ _ _) ⟨_, rfl, rfl, rfl, _, rfl, ?_⟩⟩
    rw [dI, dBl]
    refine ifb (fun c => ?_) (fun c => ?_)
    · have c0 : m.auc = decide (n ≠ 0) := by
        rw [eq_of_beq c]
        by_cases z : n = 0 <;> simp [z]
      have e : auctionM m n = (m, [-1]) := by unfold auctionM; rw [if_pos c0]
      rw [e] at q
      refine ⟨(by show 1 ≤ sizeLine; decide), fun l nl => ?_⟩
      have s2 : Same H (upd H l (.lst [.int (-1)])) := upd_same_of nl
      exact q _ L l ((Post.same s2 hb (fun x z => upd_live z) (hb.same s2)).mono (X := fun _ => False) fun x z => z.elim) nl upd_same (hb.new nl)
    · have c0 : ¬ m.auc = decide (n ≠ 0) := by
        intro z
        have : (m.auc == !decide (n = 0)) = true := by
          rw [z]
          by_cases w : n = 0 <;> simp [w]
        rw [this] at c
        cases c
      refine ⟨_, rfl, rfl, _, rfl, ?_⟩
      rw [dI]
      refine ifb (fun d => ?_) (fun d => ?_)
      · have d0 : n ≠ 0 := of_decide_eq_false (not_t d)
        have e : auctionM m n = saysM { m with auc := true } := by unfold auctionM; rw [if_neg c0, if_pos d0]
        refine ⟨_, rfl, mtB hb (by decide +kernel) ?_⟩
        exact ⟨b, L, m, rfl, hb, fun H2 P2 => says _ e H2 L (P2.mono fun x z => .inl (.inl z))⟩
      · have d0 : ¬ n ≠ 0 := fun z => z (of_decide_eq_true (not_f d))
        have e : auctionM m n = saysM (endAuc m) := by unfold auctionM; rw [if_neg c0, if_neg d0]
        refine ⟨_, rfl, mtB hb (by decide +kernel) ?_⟩
        refine ⟨b, L, m, rfl, hb, g, by omega, ?_, fun H2 L2 P2 => says _ e H2 L2 P2⟩
        rw [e] at he
        have h2 : (toldOf (endAuc m).ev).length ≤ sizeLine := he
        unfold toldOf at h2
        rw [List.length_cons, List.length_map] at h2
        have h3 : ∀ l : List Sd17.Ev, l.length ≤ (l.flatMap Sd17.numbers).length := fun l => by
          induction l with
          | nil => exact Nat.le_refl _
          | cons v l ih =>
            rw [List.flatMap_cons, List.length_append, List.length_cons]
            have : 1 ≤ (Sd17.numbers v).length := by cases v <;> exact Nat.le_add_left 1 5
            omega
        have := h3 (endAuc m).ev
        omega
end
end SB

/-! ## answered -/
namespace SB
open PySem PySem.Spec PyProof.Rows L2
def sp_answered (K : PySem.W.Frag) (A : Ad) : Sp := fun vs H Q _ => ∃ (b : Addr) (L : Ls) (m : B) (what : Int) (a : Addr) (ns : List Int), vs = [.ref b, .int what, .ref a] ∧ BookAt A H b L m ∧ Gd [] m ∧ m.ev = [] ∧ m.rs.length + m.ws.length ≤ 1024 ∧ isCall (what :: ns) ∧ (∀ z ∈ what :: ns, z < 2 ^ 31) ∧ SqL K H a (ns.map V.int) ∧
  (∀ x : Addr, Fresh m x → (stepM m x (what :: ns)).2.length ≤ sizeLine) ∧
  ∀ (H' : Hp) (L' : Ls) (l x : Addr), Fresh m x → Post A b (fun x => Ft b L m x) H L m H' L' (stepM m x (what :: ns)).1 → H l = none → H' l = some (.lst ((stepM m x (what :: ns)).2.map V.int)) → ¬ Ft b L' (stepM m x (what :: ns)).1 l → Q (.ref l) H'
section
variable {P : Program} {w : World} {K : PySem.W.Frag} {mg : Str → Option Value} {base : Heap} {A : Ad}
theorem ok_answered (T : All K mg A) : FnOk P w K mg base CX0 10 A.f_answered A.fd_answered ["book", "what", "numbers"] (sp_answered K A) := by
  refine T.F_answered.ok sc_answered (fun vs H Q E h => ?_) (fun cdv A' outer s H vs Q E hr h => ?_)
  · obtain ⟨b, L, m, what, a, ns, rfl, hb, g, hev, hl, hc, hz, hs, he, q⟩ := h
    rfl
  · obtain ⟨b, L, m, what, a, ns, rfl, hb, g, hev, hl, hc, hz, hs, he, q⟩ := h
    refine ⟨_, (pss_cons (ps_if (pt_cmpR op_eq (pv 1) pe_int (nomark _)) (pss_one (ps_ret (pe_call (ok_order_told T) (hr.mono (by decide)) (by rfl) T.g_order_told T.k_order_told T.b_order_told .nil pass0 (pa_cons (pv 0) (pa_cons (pv 2) pa_nil))))) pss_nil)
      (pss_cons (ps_if (pt_cmpR op_eq (pv 1) pe_int (nomark _)) (pss_one (ps_ret (pe_call (ok_cancel_told T) (hr.mono (by decide)) (by rfl) T.g_cancel_told T.k_cancel_told T.b_cancel_told .nil pass0 (pa_cons (pv 0) (pa_cons (pe_ix ix_list (pv 2) pe_int (fun _ _ => rfl)) pa_nil))))) pss_nil)
      (pss_cons (ps_if (pt_cmpR op_eq (pv 1) pe_int (nomark _)) (pss_one (ps_ret (pe_call (ok_change_told T) (hr.mono (by decide)) (by rfl) T.g_change_told T.k_change_told T.b_change_told .nil pass0 (pa_cons (pv 0) (pa_cons (pe_ix ix_list (pv 2) pe_int (fun _ _ => rfl)) (pa_cons (pe_ix ix_list (pv 2) pe_int (fun _ _ => rfl)) (pa_cons (pe_ix ix_list (pv 2) pe_int (fun _ _ => rfl)) pa_nil))))))) pss_nil)
      (pss_cons (ps_if (pt_cmpR op_eq (pv 1) pe_int (nomark _)) (pss_one (ps_ret (pe_call (ok_auction_told T) (hr.mono (by decide)) (by rfl) T.g_auction_told T.k_auction_told T.b_auction_told .nil pass0 (pa_cons (pv 0) (pa_cons (pe_ix ix_list (pv 2) pe_int (fun _ _ => rfl)) pa_nil))))) pss_nil)
      (pss_one (ps_ret (pe_op op_cat (pe_lst (pa_cons pe_int pa_nil)) (pe_meth0 (pv 0) T.c_Book T.m_looked (ok_looked T) (hr.mono (by decide)) T.b_looked .nil pass0)))))))), ?_⟩
    obtain ⟨x0, fx0⟩ := fresh_in m
    have ev0 : m.ev.length < sizeLine := by rw [hev]; decide
    rcases isCall_cases hc with ⟨rfl, nu, ow, si, ki, pr, am, tr, rfl⟩ | ⟨rfl, n, rfl⟩ | ⟨rfl, n, p, c, rfl⟩ | ⟨rfl, n, rfl⟩ | ⟨rfl, rfl⟩
    · refine ⟨_, rfl, rfl, _, rfl, ?_⟩
      rw [dI]
      refine ifb (fun _ => ?_) (fun c => absurd c (by decide))
      exact ⟨_, rfl, _, rfl, b, L, m, a, nu, ow, si, ki, pr, am, tr, rfl, hb, g, hz nu (by simp), hl, hs, he, q⟩
    · refine ⟨_, rfl, rfl, _, rfl, ?_⟩
      rw [dI]
      refine ifb (fun c => absurd c (by decide)) (fun _ => ?_)
      refine ⟨_, rfl, rfl, _, rfl, ?_⟩
      rw [dI]
      refine ifb (fun _ => ?_) (fun c => absurd c (by decide))
      refine ⟨_, rfl, _, rfl, a, _, 0, _, rfl, rfl, hs, at_of (j := 0) rfl rfl, ?_⟩
      exact ⟨b, L, m, n, rfl, hb, hl, ev0, he x0 fx0, fun H' L' l P nl el nF => q H' L' l x0 fx0 P nl el nF⟩
    · refine ⟨_, rfl, rfl, _, rfl, ?_⟩
      rw [dI]
      refine ifb (fun c => absurd c (by decide)) (fun _ => ?_)
      refine ⟨_, rfl, rfl, _, rfl, ?_⟩
      rw [dI]
      refine ifb (fun c => absurd c (by decide)) (fun _ => ?_)
      refine ⟨_, rfl, rfl, _, rfl, ?_⟩
      rw [dI]
      refine ifb (fun _ => ?_) (fun c => absurd c (by decide))
      refine ⟨_, rfl, _, rfl, a, _, 0, _, rfl, rfl, hs, at_of (j := 0) rfl rfl, ?_⟩
      refine ⟨_, rfl, a, _, 1, _, rfl, rfl, hs, at_of (j := 1) rfl rfl, ?_⟩
      refine ⟨_, rfl, a, _, 2, _, rfl, rfl, hs, at_of (j := 2) rfl rfl, ?_⟩
      exact ⟨b, L, m, n, p, c, rfl, hb, g, hl, he, q⟩
    · refine ⟨_, rfl, rfl, _, rfl, ?_⟩
      rw [dI]
      refine ifb (fun c => absurd c (by decide)) (fun _ => ?_)
      refine ⟨_, rfl, rfl, _, rfl, ?_⟩
      rw [dI]
      refine ifb (fun c => absurd c (by decide)) (fun _ => ?_)
      refine ⟨_, rfl, rfl, _, rfl, ?_⟩
      rw [dI]
      refine ifb (fun c => absurd c (by decide)) (fun _ => ?_)
      refine ⟨_, rfl, rfl, _, rfl, ?_⟩
      rw [dI]
      refine ifb (fun _ => ?_) (fun c => absurd c (by decide))
      refine ⟨_, rfl, _, rfl, a, _, 0, _, rfl, rfl, hs, at_of (j := 0) rfl rfl, ?_⟩
      exact ⟨b, L, m, n, rfl, hb, g, hl, he x0 fx0, fun H' L' l P nl el nF => q H' L' l x0 fx0 P nl el nF⟩
    · refine ⟨_, rfl, rfl, _, rfl, ?_⟩
      rw [dI]
      refine ifb (fun c => absurd c (by decide)) (fun _ => ?_)
      refine ⟨_, rfl, rfl, _, rfl, ?_⟩
      rw [dI]
      refine ifb (fun c => absurd c (by decide)) (fun _ => ?_)
      refine ⟨_, rfl, rfl, _, rfl, ?_⟩
      rw [dI]
      refine ifb (fun c => absurd c (by decide)) (fun _ => ?_)
      refine ⟨_, rfl, rfl, _, rfl, ?_⟩
      rw [dI]
      refine ifb (fun c => absurd c (by decide)) (fun _ => ?_)
      refine ⟨(by show 1 ≤ sizeLine; decide), fun p hp => ?_⟩
      have s1 : Same H (upd H p (.lst [.int 0])) := upd_same_of hp
      have hb1 := hb.same s1
      refine ⟨_, rfl, mtB hb1 (by decide +kernel) ?_⟩
      refine ⟨b, L, m, rfl, hb1, by omega, fun H2 l2 s2 v2 n2 e2 => ?_⟩
      have hb2 := hb1.same s2
      refine ⟨p, l2, [.int 0], _, rfl, rfl, s2 _ _ upd_same, e2, ?_, fun p3 n3 => ?_⟩
      · have h1 := he x0 fx0
        have h2 : (0 :: (seen m).map fun n : Nat => (n : Int)).length ≤ sizeLine := h1
        rw [List.length_cons, List.length_map] at h2
        rw [List.length_map]
        show 1 + (seen m).length ≤ sizeLine
        omega
      · have s3 : Same H (upd H2 p3 (.lst ([V.int 0] ++ (seen m).map nV))) := (s1.trans s2).trans (upd_same_of n3)
        have l3 : ∀ x, (upd H2 p3 (.lst ([V.int 0] ++ (seen m).map nV))) x = none → H x = none := fun x z => upd_live (v2 x (upd_live z))
        refine q _ L p3 x0 fx0 ((Post.same s3 hb l3 (hb.same s3)).mono (X := fun _ => False) fun x z => z.elim) (upd_live (v2 p3 n3)) ?_ (hb2.new n3)
        rw [upd_same]
        show some (HO.lst (V.int 0 :: (seen m).map nV)) = some (HO.lst (V.int 0 :: ((seen m).map fun n : Nat => (n : Int)).map V.int))
        rw [List.map_map]
        rfl
end
end SB

/-! ## answers -/
namespace SB
open PySem PySem.Spec PyProof.Rows L2
def sp_answers (K : PySem.W.Frag) (A : Ad) : Sp := fun vs H Q _ => ∃ (a : Addr) (ns : List Int), vs = [.ref a] ∧ SqL K H a (ns.map V.int) ∧ ns.length ≤ 30000 ∧ PySd17.answers_asked ns = true ∧
  ∀ (H' : Hp) (p : Addr), H' p = some (.lst ((PySd17.answers ns).map V.int)) → Q (.ref p) H'
section
variable {P : Program} {w : World} {K : PySem.W.Frag} {mg : Str → Option Value} {base : Heap} {A : Ad}
theorem ok_answers (T : All K mg A) : FnOk P w K mg base CX0 11 A.f_answers A.fd_answers ["calls"] (sp_answers K A) := by
  refine T.F_answers.ok sc_answers (fun vs H Q E h => ?_) (fun cdv A' outer s H vs Q E hr h => ?_)
  · obtain ⟨a, ns, rfl, hs, hl, hq, q⟩ := h
    rfl
  · obtain ⟨a, ns, rfl, hs, hl, hq, q⟩ := h
    refine ⟨_, (pss_cons (ps_set (i := 1) sc_answers.nd rfl (Or.inl rfl) (pe_make0 T.mk_Book (ok_initB T) (hr.mono (by decide)) rfl T.g_Book T.b_initB .nil pass0))
      (pss_cons (ps_set (i := 2) sc_answers.nd rfl (Or.inl rfl) (pe_lst pa_nil))
      (pss_cons (ps_set (i := 3) sc_answers.nd rfl (Or.inl rfl) pe_int)
      (pss_cons (ps_while PassesOwn.never (pt_cmpR op_lt (pv 3) (pe_callB call_len_seq (by rfl) T.b_len (by decide +kernel) (pa_cons (pv 0) pa_nil)) (nomark _)) (pss_cons (ps_set (i := 4) sc_answers.nd rfl (Or.inl rfl) (pe_ix ix_list (pv 0) (pv 3) (fun _ _ => rfl)))
      (pss_cons (ps_set (i := 5) sc_answers.nd rfl (Or.inl rfl) (pe_op op_add (pe_op op_add (pv 3) pe_int) (pe_ix ix_tup (pe_glob (v := .ref A.nums) (by rfl) T.g_NUMBERS rfl) (pv 4) (fun _ _ => rfl))))
      (pss_cons (ps_set (i := 6) sc_answers.nd rfl (Or.inl rfl) (pe_call (ok_answered T) (hr.mono (by decide)) (by rfl) T.g_answered T.k_answered T.b_answered .nil pass0 (pa_cons (pv 1) (pa_cons (pv 4) (pa_cons (pe_slice sl_list (pv 0) (po_some (pe_op op_add (pv 3) pe_int)) (po_some (pv 5))) pa_nil)))))
      (pss_cons (ps_expr (pe_bm PySem.F.plainAttrs_list PySem.F.slot_list_append PySem.F.type_list_append mt_append (pv 2) (pa_cons (pe_callB call_len_seq (by rfl) T.b_len (by decide +kernel) (pa_cons (pv 6) pa_nil)) pa_nil)))
      (pss_cons (ps_expr (pe_bm PySem.F.plainAttrs_list PySem.F.slot_list_extend PySem.F.type_list_extend mt_extend (pv 2) (pa_cons (pv 6) pa_nil)))
      (pss_one (ps_set (i := 3) sc_answers.nd rfl (Or.inl rfl) (pv 5)))))))))
      (pss_one (ps_ret (pv 2))))))), ?_⟩
    obtain ⟨cs0, AK⟩ := asked_of hq
    intro bk dx nx nd ne
    refine ⟨bk, dx, rfl, upd_same, fun H1 L hb fr own l1 => ⟨rfl, ?_⟩⟩
    have s1 : Same H H1 := fun x o e => fr x o (by rw [upd_ne (ne_of_none e nx), upd_ne (ne_of_none e nd)]; exact e) (ne_of_none e nx)
    have v1 : ∀ x, H1 x = none → H x = none := fun x z => upd_live (upd_live (l1 x z))
    have o1 : ∀ x, Ft bk L B.new x → H x = none := fun x z => (own x z).elim (fun z => by rw [z]; exact nx) (fun z => upd_live (upd_live z))
    refine ⟨Nat.zero_le _, fun F hF => ?_⟩
    have hb2 := hb.same (upd_same_of (u := .lst []) hF)
    have g0 : Gd [] B.new := ⟨List.nodup_nil, List.nodup_nil, fun o h => (by cases h), fun o h => (by cases h)⟩
    refine ⟨fun n σ H' => ∃ (m : B) (L' : Ls) (i : Nat) (cs : List (List (List Int))) (acc : List Int) (u1 u2 u3 : Option V), n = ns.length - i ∧ i ≤ ns.length ∧ σ = [some (.ref a), some (.ref bk), some (.ref F), some (nV i), u1, u2, u3] ∧ BookAt A H' bk L' m ∧ Gd [] m ∧ m.ev = [] ∧ m.rs.length + m.ws.length ≤ 1024 ∧
        H' F = some (.lst (acc.map V.int)) ∧ ¬ Ft bk L' m F ∧ Same H H' ∧ (∀ x, Ft bk L' m x → H x = none) ∧ (∀ x, H' x = none → H x = none) ∧ Left cs (ns.drop i) ∧ PySd17.answers ns = acc ++ PyFlat.told (PyFlat.played Sd17Neutral.step (ab m) (cs.map PySd17.whole)),
      ⟨_, B.new, L, 0, cs0, [], none, none, none, rfl, Nat.zero_le _, rfl, hb2, g0, rfl, by decide, upd_same, hb.new hF, s1.trans (upd_same_of hF), o1, fun x z => v1 x (upd_live z), AK.left, AK.eq⟩, ?_⟩
    rintro n0 σ H' ⟨m, L', i, cs, acc, u1, u2, u3, rfl, hi, rfl, hb', g, hev, hl', eF, nF, s', own', v', left, eq⟩
    refine ⟨_, rfl, _, rfl, a, _, rfl, .inl (s'.seq hs), _, _, rfl, rfl, _, rfl, ?_⟩
    refine ifb (fun c => ?_) (fun c => ?_)
    rotate_left
    · have c0 : i = ns.length := by
        have := of_decide_eq_false c
        rw [List.length_map] at this
        omega
      rw [c0, List.drop_length] at left
      have e0 := left.nil
      subst e0
      have e1 : PySd17.answers ns = acc := by
        rw [eq]
        exact List.append_nil _
      rw [← e1] at eF
      exact ⟨_, rfl, q H' F eF⟩
    have lt : i < ns.length := by
      have := of_decide_eq_true c
      rw [List.length_map] at this
      omega
    have ed := List.drop_eq_getElem_cons lt
    generalize hp : ns[i] = p at ed
    generalize hr0 : ns.drop (i + 1) = r at ed
    rw [ed] at left
    obtain ⟨n, cs', LS⟩ := left.step
    have MC := many_call LS.many LS.len
    have gi : ns[i]? = some p := by rw [List.getElem?_eq_getElem lt, hp]
    have gi2 : (ns.map V.int)[i]? = some (V.int p) := by rw [List.getElem?_map, gi]; rfl
    have hNum : atI [V.int 0, V.int 7, V.int 1, V.int 3, V.int 1, V.int 0] p = some (V.int (n : Int)) := by
      rcases LS.many with ⟨e1, e2⟩ | ⟨e1, e2⟩ | ⟨e1, e2⟩ | ⟨e1, e2⟩ | ⟨e1, e2⟩ <;> rw [e1, e2] <;> rfl
    have rlen : r.length = ns.length - (i + 1) := by rw [← hr0, List.length_drop]
    have SM : ∀ x, Fresh m x → StepOk m (stepM m x (p :: r.take n)) (Sd17Neutral.step (ab m) [p :: r.take n]) := fun x fx => step_sim g hev hl' x fx _ MC.1 LS.small
    have played : PyFlat.told (PyFlat.played Sd17Neutral.step (ab m) (cs.map PySd17.whole)) = (((Sd17Neutral.step (ab m) [p :: r.take n]).2.length : Int) :: (Sd17Neutral.step (ab m) [p :: r.take n]).2) ++ PyFlat.told (PyFlat.played Sd17Neutral.step (Sd17Neutral.step (ab m) [p :: r.take n]).1 (cs'.map PySd17.whole)) := by
      rw [LS.eq, List.map_cons, MC.2]
      rfl
    rw [played] at eq
    have bnd : acc.length + (1 + (Sd17Neutral.step (ab m) [p :: r.take n]).2.length) ≤ 10000000 := by
      have h1 := AK.short
      rw [eq, List.length_append, List.length_append, List.length_cons] at h1
      omega
    refine ⟨fun σ' H2 => ∃ n', n' < ns.length - i ∧ ∃ (m : B) (L' : Ls) (i : Nat) (cs : List (List (List Int))) (acc : List Int) (u1 u2 u3 : Option V), n' = ns.length - i ∧ i ≤ ns.length ∧ σ' = [some (.ref a), some (.ref bk), some (.ref F), some (nV i), u1, u2, u3] ∧ BookAt A H2 bk L' m ∧ Gd [] m ∧ m.ev = [] ∧ m.rs.length + m.ws.length ≤ 1024 ∧
        H2 F = some (.lst (acc.map V.int)) ∧ ¬ Ft bk L' m F ∧ Same H H2 ∧ (∀ x, Ft bk L' m x → H x = none) ∧ (∀ x, H2 x = none → H x = none) ∧ Left cs (ns.drop i) ∧ PySd17.answers ns = acc ++ PyFlat.told (PyFlat.played Sd17Neutral.step (ab m) (cs.map PySd17.whole)), fun σ' H2 z => z, ?_⟩
    -- what = calls[at]; end = at + 1 + NUMBERS[what]
    refine ⟨_, rfl, _, rfl, a, _, (i : Int), V.int p, rfl, rfl, s'.seq hs, atI_nat gi2, ?_⟩
    refine ⟨_, rfl, _, _, rfl, rfl, _, rfl, A.nums, _, p, V.int (n : Int), rfl, rfl, T.t_NUMBERS _, hNum, _, _, rfl, rfl, ?_⟩
    have eE : ((i : Int) + 1 + (n : Int)) = ((i + 1 + n : Nat) : Int) := by omega
    dsimp only
    rw [eE]
    -- told = answered(book, what, calls[at + 1:end])
    refine ⟨_, rfl, _, rfl, _, rfl, _, rfl, _, _, rfl, rfl, _, rfl, _, rfl, _, rfl, a, _, rfl, s'.seq hs, fun pS nS => ?_⟩
    rw [cut_is hr0 LS.len lt]
    have sS : Same H' (upd H' pS (.lst ((r.take n).map V.int))) := upd_same_of nS
    have eFs := sS _ _ eF
    refine ⟨bk, L', m, p, pS, r.take n, rfl, hb'.same sS, g, hev, hl', MC.1, LS.small, SqL.of upd_same, fun x fx => ?_, fun H2 L2 l x fx P nl el nFl => ?_⟩
    · have := congrArg (fun z => z.2.length) (SM x fx).eq
      have this : (Sd17Neutral.step (ab m) [p :: r.take n]).2.length = (stepM m x (p :: r.take n)).2.length := this
      rw [← this]
      exact Nat.le_trans (by omega) (show 10000000 ≤ sizeLine by decide)
    have SK := SM x fx
    have e1 : (Sd17Neutral.step (ab m) [p :: r.take n]).1 = ab (stepM m x (p :: r.take n)).1 := congrArg Prod.fst SK.eq
    have e2 : (Sd17Neutral.step (ab m) [p :: r.take n]).2 = (stepM m x (p :: r.take n)).2 := congrArg Prod.snd SK.eq
    rw [e1, e2] at eq
    rw [e2] at bnd
    have kg := SK.gd
    have kv := SK.ev
    have kl := SK.len
    generalize hy : stepM m x (p :: r.take n) = y at eq bnd kg kv kl P el nFl
    have eF2 := P.fr _ _ eFs nF
    have nF2 := P.ft eFs nF nF
    have nlF : l ≠ F := fun z => by rw [z, eFs] at nl; cases nl
    -- found.append(len(told)); found.extend(told)
    refine ⟨_, rfl, .inl ⟨rfl, _, SqL.of eF2⟩, _, rfl, l, _, rfl, .inl (SqL.of el), F, _, _, rfl, rfl, eF2, ?_, ?_⟩
    · rw [List.length_map]
      exact Nat.lt_of_le_of_lt (show acc.length ≤ 10000000 by omega) (by decide)
    have el3 : (upd H2 F (.lst (acc.map V.int ++ [.int ((y.2.map V.int).length : Int)]))) l = some (.lst (y.2.map V.int)) := by rw [upd_ne nlF]; exact el
    refine ⟨_, rfl, .inl ⟨rfl, _, SqL.of upd_same⟩, _, rfl, F, l, _, _, rfl, rfl, upd_same, el3, ?_, ?_⟩
    · rw [List.length_append, List.length_map, List.length_map]
      exact Nat.le_trans (show acc.length + 1 + y.2.length ≤ 10000000 by omega) (by decide)
    -- at = end
    refine ⟨_, rfl, ns.length - (i + 1 + n), by omega, y.1, L2, i + 1 + n, cs', acc ++ ((y.2.length : Int) :: y.2), _, _, _, rfl, by have := LS.len; omega, rfl, ?_, kg, kv, kl, ?_, nF2, ?_, ?_, ?_, ?_, ?_⟩
    · refine P.at_.keep0 kv fun z o e f => ?_
      have nz : z ≠ F := fun w => nF2 (by rw [← w]; exact f)
      rw [upd_ne nz, upd_ne nz]
      exact e
    · rw [upd_same, List.length_map, List.map_append, List.map_cons, List.append_assoc]
      rfl
    · intro z o e
      have nz : z ≠ F := ne_of_none e (v1 F hF)
      rw [upd_ne nz, upd_ne nz]
      exact P.fr _ _ (sS _ _ (s' _ _ e)) fun w => by rw [own' z w] at e; cases e
    · intro z w
      rcases P.sub z w with w | w | w
      · exact own' z w
      · exact own' z w
      · exact v' z (upd_live w)
    · intro z w
      exact v' z (upd_live (P.live z (upd_live (upd_live w))))
    · have h1 := LS.left
      rw [← hr0, List.drop_drop] at h1
      exact h1
    · rw [eq, List.append_assoc]
end
end SB

/-! # The end: what the top has left, the head -/
namespace SB
open PySem PySem.Spec PyProof.Rows L2
open PySem.W (Codec)
def spAns (K : PySem.W.Frag) : Sp := fun vs H Q _ => ∃ (a : Addr) (ns : List Int), vs = [.ref a] ∧ SqL K H a (ns.map V.int) ∧ ns.length ≤ 30000 ∧ PySd17.answers_asked ns = true ∧
  ∀ (H' : Hp) (p : Addr), H' p = some (.lst ((PySd17.answers ns).map V.int)) → Q (.ref p) H'
theorem all_mk {P : Program} {w : World} {K : PySem.W.Frag} {h : Heap} {mg : Str → Option Value} {fa : Addr} (X : K.In h) (G : h.Ns mainGlobals mg) (hfa : mg "answers" = some (.ref fa))
    {cO cB nums : Addr}
    {f_is_amount : Addr} {od_is_amount an_is_amount : Option Addr} {sl_is_amount : Array (Option Value)} {oc_is_amount kV_is_amount dc_is_amount pm_is_amount cd_is_amount ct_is_amount : Value}
    {f_has_price : Addr} {od_has_price an_has_price : Option Addr} {sl_has_price : Array (Option Value)} {oc_has_price kV_has_price dc_has_price pm_has_price cd_has_price ct_has_price : Value}
    {f_is_stop : Addr} {od_is_stop an_is_stop : Option Addr} {sl_is_stop : Array (Option Value)} {oc_is_stop kV_is_stop dc_is_stop pm_is_stop cd_is_stop ct_is_stop : Value}
    {f_is_order : Addr} {od_is_order an_is_order : Option Addr} {sl_is_order : Array (Option Value)} {oc_is_order kV_is_order dc_is_order pm_is_order cd_is_order ct_is_order : Value}
    {f_initO : Addr} {od_initO an_initO : Option Addr} {sl_initO : Array (Option Value)} {oc_initO kV_initO dc_initO pm_initO cd_initO ct_initO : Value}
    {f_accepts : Addr} {od_accepts an_accepts : Option Addr} {sl_accepts : Array (Option Value)} {oc_accepts kV_accepts dc_accepts pm_accepts cd_accepts ct_accepts : Value}
    {f_goes_before : Addr} {od_goes_before an_goes_before : Option Addr} {sl_goes_before : Array (Option Value)} {oc_goes_before kV_goes_before dc_goes_before pm_goes_before cd_goes_before ct_goes_before : Value}
    {f_is_triggered : Addr} {od_is_triggered an_is_triggered : Option Addr} {sl_is_triggered : Array (Option Value)} {oc_is_triggered kV_is_triggered dc_is_triggered pm_is_triggered cd_is_triggered ct_is_triggered : Value}
    {f_order_of : Addr} {od_order_of an_order_of : Option Addr} {sl_order_of : Array (Option Value)} {oc_order_of kV_order_of dc_order_of pm_order_of cd_order_of ct_order_of : Value}
    {f_amounts_by_price : Addr} {od_amounts_by_price an_amounts_by_price : Option Addr} {sl_amounts_by_price : Array (Option Value)} {oc_amounts_by_price kV_amounts_by_price dc_amounts_by_price pm_amounts_by_price cd_amounts_by_price ct_amounts_by_price : Value}
    {f_wished_at : Addr} {od_wished_at an_wished_at : Option Addr} {sl_wished_at : Array (Option Value)} {oc_wished_at kV_wished_at dc_wished_at pm_wished_at cd_wished_at ct_wished_at : Value}
    {f_distance : Addr} {od_distance an_distance : Option Addr} {sl_distance : Array (Option Value)} {oc_distance kV_distance dc_distance pm_distance cd_distance ct_distance : Value}
    {f_auction_price : Addr} {od_auction_price an_auction_price : Option Addr} {sl_auction_price : Array (Option Value)} {oc_auction_price kV_auction_price dc_auction_price pm_auction_price cd_auction_price ct_auction_price : Value}
    {f_initB : Addr} {od_initB an_initB : Option Addr} {sl_initB : Array (Option Value)} {oc_initB kV_initB dc_initB pm_initB cd_initB ct_initB : Value}
    {f_tell : Addr} {od_tell an_tell : Option Addr} {sl_tell : Array (Option Value)} {oc_tell kV_tell dc_tell pm_tell cd_tell ct_tell : Value}
    {f_found_in : Addr} {od_found_in an_found_in : Option Addr} {sl_found_in : Array (Option Value)} {oc_found_in kV_found_in dc_found_in pm_found_in cd_found_in ct_found_in : Value}
    {f_resting_order : Addr} {od_resting_order an_resting_order : Option Addr} {sl_resting_order : Array (Option Value)} {oc_resting_order kV_resting_order dc_resting_order pm_resting_order cd_resting_order ct_resting_order : Value}
    {f_any_order : Addr} {od_any_order an_any_order : Option Addr} {sl_any_order : Array (Option Value)} {oc_any_order kV_any_order dc_any_order pm_any_order cd_any_order ct_any_order : Value}
    {f_take_out : Addr} {od_take_out an_take_out : Option Addr} {sl_take_out : Array (Option Value)} {oc_take_out kV_take_out dc_take_out pm_take_out cd_take_out ct_take_out : Value}
    {f_best : Addr} {od_best an_best : Option Addr} {sl_best : Array (Option Value)} {oc_best kV_best dc_best pm_best cd_best ct_best : Value}
    {f_best_for : Addr} {od_best_for an_best_for : Option Addr} {sl_best_for : Array (Option Value)} {oc_best_for kV_best_for dc_best_for pm_best_for cd_best_for ct_best_for : Value}
    {f_rest : Addr} {od_rest an_rest : Option Addr} {sl_rest : Array (Option Value)} {oc_rest kV_rest dc_rest pm_rest cd_rest ct_rest : Value}
    {f_end : Addr} {od_end an_end : Option Addr} {sl_end : Array (Option Value)} {oc_end kV_end dc_end pm_end cd_end ct_end : Value}
    {f_trade : Addr} {od_trade an_trade : Option Addr} {sl_trade : Array (Option Value)} {oc_trade kV_trade dc_trade pm_trade cd_trade ct_trade : Value}
    {f_take_if_done : Addr} {od_take_if_done an_take_if_done : Option Addr} {sl_take_if_done : Array (Option Value)} {oc_take_if_done kV_take_if_done dc_take_if_done pm_take_if_done cd_take_if_done ct_take_if_done : Value}
    {f_meet : Addr} {od_meet an_meet : Option Addr} {sl_meet : Array (Option Value)} {oc_meet kV_meet dc_meet pm_meet cd_meet ct_meet : Value}
    {f_trade_all : Addr} {od_trade_all an_trade_all : Option Addr} {sl_trade_all : Array (Option Value)} {oc_trade_all kV_trade_all dc_trade_all pm_trade_all cd_trade_all ct_trade_all : Value}
    {f_others_amount : Addr} {od_others_amount an_others_amount : Option Addr} {sl_others_amount : Array (Option Value)} {oc_others_amount kV_others_amount dc_others_amount pm_others_amount cd_others_amount ct_others_amount : Value}
    {f_come : Addr} {od_come an_come : Option Addr} {sl_come : Array (Option Value)} {oc_come kV_come dc_come pm_come cd_come ct_come : Value}
    {f_leave : Addr} {od_leave an_leave : Option Addr} {sl_leave : Array (Option Value)} {oc_leave kV_leave dc_leave pm_leave cd_leave ct_leave : Value}
    {f_triggered : Addr} {od_triggered an_triggered : Option Addr} {sl_triggered : Array (Option Value)} {oc_triggered kV_triggered dc_triggered pm_triggered cd_triggered ct_triggered : Value}
    {f_trigger_all : Addr} {od_trigger_all an_trigger_all : Option Addr} {sl_trigger_all : Array (Option Value)} {oc_trigger_all kV_trigger_all dc_trigger_all pm_trigger_all cd_trigger_all ct_trigger_all : Value}
    {f_take : Addr} {od_take an_take : Option Addr} {sl_take : Array (Option Value)} {oc_take kV_take dc_take pm_take cd_take ct_take : Value}
    {f_cancel : Addr} {od_cancel an_cancel : Option Addr} {sl_cancel : Array (Option Value)} {oc_cancel kV_cancel dc_cancel pm_cancel cd_cancel ct_cancel : Value}
    {f_change : Addr} {od_change an_change : Option Addr} {sl_change : Array (Option Value)} {oc_change kV_change dc_change pm_change cd_change ct_change : Value}
    {f_price_now : Addr} {od_price_now an_price_now : Option Addr} {sl_price_now : Array (Option Value)} {oc_price_now kV_price_now dc_price_now pm_price_now cd_price_now ct_price_now : Value}
    {f_trade_at : Addr} {od_trade_at an_trade_at : Option Addr} {sl_trade_at : Array (Option Value)} {oc_trade_at kV_trade_at dc_trade_at pm_trade_at cd_trade_at ct_trade_at : Value}
    {f_begin_auction : Addr} {od_begin_auction an_begin_auction : Option Addr} {sl_begin_auction : Array (Option Value)} {oc_begin_auction kV_begin_auction dc_begin_auction pm_begin_auction cd_begin_auction ct_begin_auction : Value}
    {f_end_auction : Addr} {od_end_auction an_end_auction : Option Addr} {sl_end_auction : Array (Option Value)} {oc_end_auction kV_end_auction dc_end_auction pm_end_auction cd_end_auction ct_end_auction : Value}
    {f_best_told : Addr} {od_best_told an_best_told : Option Addr} {sl_best_told : Array (Option Value)} {oc_best_told kV_best_told dc_best_told pm_best_told cd_best_told ct_best_told : Value}
    {f_looked : Addr} {od_looked an_looked : Option Addr} {sl_looked : Array (Option Value)} {oc_looked kV_looked dc_looked pm_looked cd_looked ct_looked : Value}
    {f_events_told : Addr} {od_events_told an_events_told : Option Addr} {sl_events_told : Array (Option Value)} {oc_events_told kV_events_told dc_events_told pm_events_told cd_events_told ct_events_told : Value}
    {f_order_told : Addr} {od_order_told an_order_told : Option Addr} {sl_order_told : Array (Option Value)} {oc_order_told kV_order_told dc_order_told pm_order_told cd_order_told ct_order_told : Value}
    {f_cancel_told : Addr} {od_cancel_told an_cancel_told : Option Addr} {sl_cancel_told : Array (Option Value)} {oc_cancel_told kV_cancel_told dc_cancel_told pm_cancel_told cd_cancel_told ct_cancel_told : Value}
    {f_change_told : Addr} {od_change_told an_change_told : Option Addr} {sl_change_told : Array (Option Value)} {oc_change_told kV_change_told dc_change_told pm_change_told cd_change_told ct_change_told : Value}
    {f_auction_told : Addr} {od_auction_told an_auction_told : Option Addr} {sl_auction_told : Array (Option Value)} {oc_auction_told kV_auction_told dc_auction_told pm_auction_told cd_auction_told ct_auction_told : Value}
    {f_answered : Addr} {od_answered an_answered : Option Addr} {sl_answered : Array (Option Value)} {oc_answered kV_answered dc_answered pm_answered cd_answered ct_answered : Value}
    {f_answers : Addr} {od_answers an_answers : Option Addr} {sl_answers : Array (Option Value)} {oc_answers kV_answers dc_answers pm_answers cd_answers ct_answers : Value}
    {t_BUYS : Tok}
    {t_SELLS : Tok}
    {t_LIMIT : Tok}
    {t_MARKET : Tok}
    {t_ALL_AT_ONCE : Tok}
    {t_ONLY_REST : Tok}
    {t_STOP : Tok}
    {t_STOP_LIMIT : Tok}
    {t_MOST : Tok}
    {t_MOST_OWNER : Tok}
    {t_TRADED : Tok}
    {t_RESTS : Tok}
    {t_ENDED : Tok}
    {t_TRIGGERED : Tok}
    {t_CANCELLED : Tok}
    {t_NOT_TRADED : Tok}
    {t_NOT_ALL : Tok}
    {t_WOULD_TRADE : Tok}
    {t_OWN : Tok}
    {t_WRONG : Tok}
    {t_NOT_NOW : Tok}
    {t_MOST_ORDERS : Tok}
    {t0_NUMBERS t1_NUMBERS t2_NUMBERS t3_NUMBERS t4_NUMBERS t5_NUMBERS : Tok} {od_NUMBERS : Option Addr} {n_NUMBERS : Nat} {sl_NUMBERS : Array (Option Value)}
    (aO : PySem.W.nsIn K mainGlobals "Order" = some (some (.ref cO)))
    (aB : PySem.W.nsIn K mainGlobals "Book" = some (some (.ref cB)))
    (pgO : PySem.W.plainGet K cO Str.empty = true)
    (hdO : PySem.W.hasDictIn K cO = true)
    (poO : PySem.W.plainOver K cO = true)
    (saO : PySem.W.findIn K (.ref cO) "__setattr__" = some (some (.builtin "object.__setattr__")))
    (mkO : PySem.W.makesIn K cO = true)
    (kcO : PySem.W.keepIn K (.ref cO) = true)
    (pgB : PySem.W.plainGet K cB Str.empty = true)
    (hdB : PySem.W.hasDictIn K cB = true)
    (poB : PySem.W.plainOver K cB = true)
    (saB : PySem.W.findIn K (.ref cB) "__setattr__" = some (some (.builtin "object.__setattr__")))
    (mkB : PySem.W.makesIn K cB = true)
    (kcB : PySem.W.keepIn K (.ref cB) = true)
    (n_number : PySem.W.findIn K (.ref cO) "number" = some none)
    (n_owner : PySem.W.findIn K (.ref cO) "owner" = some none)
    (n_side : PySem.W.findIn K (.ref cO) "side" = some none)
    (n_kind : PySem.W.findIn K (.ref cO) "kind" = some none)
    (n_price : PySem.W.findIn K (.ref cO) "price" = some none)
    (n_amount : PySem.W.findIn K (.ref cO) "amount" = some none)
    (n_trigger : PySem.W.findIn K (.ref cO) "trigger" = some none)
    (n_resting : PySem.W.findIn K (.ref cB) "resting" = some none)
    (n_waiting : PySem.W.findIn K (.ref cB) "waiting" = some none)
    (n_latest : PySem.W.findIn K (.ref cB) "latest" = some none)
    (n_auction : PySem.W.findIn K (.ref cB) "auction" = some none)
    (n_events : PySem.W.findIn K (.ref cB) "events" = some none)
    (a_is_amount : PySem.W.nsIn K mainGlobals "is_amount" = some (some (.ref f_is_amount)))
    (l_is_amount : K.lookup f_is_amount = some ⟨oc_is_amount, od_is_amount, .func (PySem.W.fnOf "is_amount" "is_amount" (defArgs s_is_amount) (defBody s_is_amount) (defScope s_is_amount) .none kV_is_amount dc_is_amount pm_is_amount an_is_amount cd_is_amount ct_is_amount), sl_is_amount⟩)
    (c_is_amount : PySem.W.codeIn K cd_is_amount "is_amount" = true)
    (k_is_amount : PySem.W.keepIn K (.ref f_is_amount) = true)
    (a_has_price : PySem.W.nsIn K mainGlobals "has_price" = some (some (.ref f_has_price)))
    (l_has_price : K.lookup f_has_price = some ⟨oc_has_price, od_has_price, .func (PySem.W.fnOf "has_price" "has_price" (defArgs s_has_price) (defBody s_has_price) (defScope s_has_price) .none kV_has_price dc_has_price pm_has_price an_has_price cd_has_price ct_has_price), sl_has_price⟩)
    (c_has_price : PySem.W.codeIn K cd_has_price "has_price" = true)
    (k_has_price : PySem.W.keepIn K (.ref f_has_price) = true)
    (a_is_stop : PySem.W.nsIn K mainGlobals "is_stop" = some (some (.ref f_is_stop)))
    (l_is_stop : K.lookup f_is_stop = some ⟨oc_is_stop, od_is_stop, .func (PySem.W.fnOf "is_stop" "is_stop" (defArgs s_is_stop) (defBody s_is_stop) (defScope s_is_stop) .none kV_is_stop dc_is_stop pm_is_stop an_is_stop cd_is_stop ct_is_stop), sl_is_stop⟩)
    (c_is_stop : PySem.W.codeIn K cd_is_stop "is_stop" = true)
    (k_is_stop : PySem.W.keepIn K (.ref f_is_stop) = true)
    (a_is_order : PySem.W.nsIn K mainGlobals "is_order" = some (some (.ref f_is_order)))
    (l_is_order : K.lookup f_is_order = some ⟨oc_is_order, od_is_order, .func (PySem.W.fnOf "is_order" "is_order" (defArgs s_is_order) (defBody s_is_order) (defScope s_is_order) .none kV_is_order dc_is_order pm_is_order an_is_order cd_is_order ct_is_order), sl_is_order⟩)
    (c_is_order : PySem.W.codeIn K cd_is_order "is_order" = true)
    (k_is_order : PySem.W.keepIn K (.ref f_is_order) = true)
    (a_initO : PySem.W.findIn K (.ref cO) "__init__" = some (some (.ref f_initO)))
    (i_initO : PySem.W.isFn K (.ref f_initO) = true)
    (l_initO : K.lookup f_initO = some ⟨oc_initO, od_initO, .func (PySem.W.fnOf "__init__" "Order.__init__" (defArgs s_initO) (defBody s_initO) (defScope s_initO) .none kV_initO dc_initO pm_initO an_initO cd_initO ct_initO), sl_initO⟩)
    (c_initO : PySem.W.codeIn K cd_initO "Order.__init__" = true)
    (k_initO : PySem.W.keepIn K (.ref f_initO) = true)
    (a_accepts : PySem.W.findIn K (.ref cO) "accepts" = some (some (.ref f_accepts)))
    (i_accepts : PySem.W.isFn K (.ref f_accepts) = true)
    (l_accepts : K.lookup f_accepts = some ⟨oc_accepts, od_accepts, .func (PySem.W.fnOf "accepts" "Order.accepts" (defArgs s_accepts) (defBody s_accepts) (defScope s_accepts) .none kV_accepts dc_accepts pm_accepts an_accepts cd_accepts ct_accepts), sl_accepts⟩)
    (c_accepts : PySem.W.codeIn K cd_accepts "Order.accepts" = true)
    (k_accepts : PySem.W.keepIn K (.ref f_accepts) = true)
    (a_goes_before : PySem.W.findIn K (.ref cO) "goes_before" = some (some (.ref f_goes_before)))
    (i_goes_before : PySem.W.isFn K (.ref f_goes_before) = true)
    (l_goes_before : K.lookup f_goes_before = some ⟨oc_goes_before, od_goes_before, .func (PySem.W.fnOf "goes_before" "Order.goes_before" (defArgs s_goes_before) (defBody s_goes_before) (defScope s_goes_before) .none kV_goes_before dc_goes_before pm_goes_before an_goes_before cd_goes_before ct_goes_before), sl_goes_before⟩)
    (c_goes_before : PySem.W.codeIn K cd_goes_before "Order.goes_before" = true)
    (k_goes_before : PySem.W.keepIn K (.ref f_goes_before) = true)
    (a_is_triggered : PySem.W.findIn K (.ref cO) "is_triggered" = some (some (.ref f_is_triggered)))
    (i_is_triggered : PySem.W.isFn K (.ref f_is_triggered) = true)
    (l_is_triggered : K.lookup f_is_triggered = some ⟨oc_is_triggered, od_is_triggered, .func (PySem.W.fnOf "is_triggered" "Order.is_triggered" (defArgs s_is_triggered) (defBody s_is_triggered) (defScope s_is_triggered) .none kV_is_triggered dc_is_triggered pm_is_triggered an_is_triggered cd_is_triggered ct_is_triggered), sl_is_triggered⟩)
    (c_is_triggered : PySem.W.codeIn K cd_is_triggered "Order.is_triggered" = true)
    (k_is_triggered : PySem.W.keepIn K (.ref f_is_triggered) = true)
    (a_order_of : PySem.W.nsIn K mainGlobals "order_of" = some (some (.ref f_order_of)))
    (l_order_of : K.lookup f_order_of = some ⟨oc_order_of, od_order_of, .func (PySem.W.fnOf "order_of" "order_of" (defArgs s_order_of) (defBody s_order_of) (defScope s_order_of) .none kV_order_of dc_order_of pm_order_of an_order_of cd_order_of ct_order_of), sl_order_of⟩)
    (c_order_of : PySem.W.codeIn K cd_order_of "order_of" = true)
    (k_order_of : PySem.W.keepIn K (.ref f_order_of) = true)
    (a_amounts_by_price : PySem.W.nsIn K mainGlobals "amounts_by_price" = some (some (.ref f_amounts_by_price)))
    (l_amounts_by_price : K.lookup f_amounts_by_price = some ⟨oc_amounts_by_price, od_amounts_by_price, .func (PySem.W.fnOf "amounts_by_price" "amounts_by_price" (defArgs s_amounts_by_price) (defBody s_amounts_by_price) (defScope s_amounts_by_price) .none kV_amounts_by_price dc_amounts_by_price pm_amounts_by_price an_amounts_by_price cd_amounts_by_price ct_amounts_by_price), sl_amounts_by_price⟩)
    (c_amounts_by_price : PySem.W.codeIn K cd_amounts_by_price "amounts_by_price" = true)
    (k_amounts_by_price : PySem.W.keepIn K (.ref f_amounts_by_price) = true)
    (a_wished_at : PySem.W.nsIn K mainGlobals "wished_at" = some (some (.ref f_wished_at)))
    (l_wished_at : K.lookup f_wished_at = some ⟨oc_wished_at, od_wished_at, .func (PySem.W.fnOf "wished_at" "wished_at" (defArgs s_wished_at) (defBody s_wished_at) (defScope s_wished_at) .none kV_wished_at dc_wished_at pm_wished_at an_wished_at cd_wished_at ct_wished_at), sl_wished_at⟩)
    (c_wished_at : PySem.W.codeIn K cd_wished_at "wished_at" = true)
    (k_wished_at : PySem.W.keepIn K (.ref f_wished_at) = true)
    (a_distance : PySem.W.nsIn K mainGlobals "distance" = some (some (.ref f_distance)))
    (l_distance : K.lookup f_distance = some ⟨oc_distance, od_distance, .func (PySem.W.fnOf "distance" "distance" (defArgs s_distance) (defBody s_distance) (defScope s_distance) .none kV_distance dc_distance pm_distance an_distance cd_distance ct_distance), sl_distance⟩)
    (c_distance : PySem.W.codeIn K cd_distance "distance" = true)
    (k_distance : PySem.W.keepIn K (.ref f_distance) = true)
    (a_auction_price : PySem.W.nsIn K mainGlobals "auction_price" = some (some (.ref f_auction_price)))
    (l_auction_price : K.lookup f_auction_price = some ⟨oc_auction_price, od_auction_price, .func (PySem.W.fnOf "auction_price" "auction_price" (defArgs s_auction_price) (defBody s_auction_price) (defScope s_auction_price) .none kV_auction_price dc_auction_price pm_auction_price an_auction_price cd_auction_price ct_auction_price), sl_auction_price⟩)
    (c_auction_price : PySem.W.codeIn K cd_auction_price "auction_price" = true)
    (k_auction_price : PySem.W.keepIn K (.ref f_auction_price) = true)
    (a_initB : PySem.W.findIn K (.ref cB) "__init__" = some (some (.ref f_initB)))
    (i_initB : PySem.W.isFn K (.ref f_initB) = true)
    (l_initB : K.lookup f_initB = some ⟨oc_initB, od_initB, .func (PySem.W.fnOf "__init__" "Book.__init__" (defArgs s_initB) (defBody s_initB) (defScope s_initB) .none kV_initB dc_initB pm_initB an_initB cd_initB ct_initB), sl_initB⟩)
    (c_initB : PySem.W.codeIn K cd_initB "Book.__init__" = true)
    (k_initB : PySem.W.keepIn K (.ref f_initB) = true)
    (a_tell : PySem.W.findIn K (.ref cB) "tell" = some (some (.ref f_tell)))
    (i_tell : PySem.W.isFn K (.ref f_tell) = true)
    (l_tell : K.lookup f_tell = some ⟨oc_tell, od_tell, .func (PySem.W.fnOf "tell" "Book.tell" (defArgs s_tell) (defBody s_tell) (defScope s_tell) .none kV_tell dc_tell pm_tell an_tell cd_tell ct_tell), sl_tell⟩)
    (c_tell : PySem.W.codeIn K cd_tell "Book.tell" = true)
    (k_tell : PySem.W.keepIn K (.ref f_tell) = true)
    (a_found_in : PySem.W.findIn K (.ref cB) "found_in" = some (some (.ref f_found_in)))
    (i_found_in : PySem.W.isFn K (.ref f_found_in) = true)
    (l_found_in : K.lookup f_found_in = some ⟨oc_found_in, od_found_in, .func (PySem.W.fnOf "found_in" "Book.found_in" (defArgs s_found_in) (defBody s_found_in) (defScope s_found_in) .none kV_found_in dc_found_in pm_found_in an_found_in cd_found_in ct_found_in), sl_found_in⟩)
    (c_found_in : PySem.W.codeIn K cd_found_in "Book.found_in" = true)
    (k_found_in : PySem.W.keepIn K (.ref f_found_in) = true)
    (a_resting_order : PySem.W.findIn K (.ref cB) "resting_order" = some (some (.ref f_resting_order)))
    (i_resting_order : PySem.W.isFn K (.ref f_resting_order) = true)
    (l_resting_order : K.lookup f_resting_order = some ⟨oc_resting_order, od_resting_order, .func (PySem.W.fnOf "resting_order" "Book.resting_order" (defArgs s_resting_order) (defBody s_resting_order) (defScope s_resting_order) .none kV_resting_order dc_resting_order pm_resting_order an_resting_order cd_resting_order ct_resting_order), sl_resting_order⟩)
    (c_resting_order : PySem.W.codeIn K cd_resting_order "Book.resting_order" = true)
    (k_resting_order : PySem.W.keepIn K (.ref f_resting_order) = true)
    (a_any_order : PySem.W.findIn K (.ref cB) "any_order" = some (some (.ref f_any_order)))
    (i_any_order : PySem.W.isFn K (.ref f_any_order) = true)
    (l_any_order : K.lookup f_any_order = some ⟨oc_any_order, od_any_order, .func (PySem.W.fnOf "any_order" "Book.any_order" (defArgs s_any_order) (defBody s_any_order) (defScope s_any_order) .none kV_any_order dc_any_order pm_any_order an_any_order cd_any_order ct_any_order), sl_any_order⟩)
    (c_any_order : PySem.W.codeIn K cd_any_order "Book.any_order" = true)
    (k_any_order : PySem.W.keepIn K (.ref f_any_order) = true)
    (a_take_out : PySem.W.findIn K (.ref cB) "take_out" = some (some (.ref f_take_out)))
    (i_take_out : PySem.W.isFn K (.ref f_take_out) = true)
    (l_take_out : K.lookup f_take_out = some ⟨oc_take_out, od_take_out, .func (PySem.W.fnOf "take_out" "Book.take_out" (defArgs s_take_out) (defBody s_take_out) (defScope s_take_out) .none kV_take_out dc_take_out pm_take_out an_take_out cd_take_out ct_take_out), sl_take_out⟩)
    (c_take_out : PySem.W.codeIn K cd_take_out "Book.take_out" = true)
    (k_take_out : PySem.W.keepIn K (.ref f_take_out) = true)
    (a_best : PySem.W.findIn K (.ref cB) "best" = some (some (.ref f_best)))
    (i_best : PySem.W.isFn K (.ref f_best) = true)
    (l_best : K.lookup f_best = some ⟨oc_best, od_best, .func (PySem.W.fnOf "best" "Book.best" (defArgs s_best) (defBody s_best) (defScope s_best) .none kV_best dc_best pm_best an_best cd_best ct_best), sl_best⟩)
    (c_best : PySem.W.codeIn K cd_best "Book.best" = true)
    (k_best : PySem.W.keepIn K (.ref f_best) = true)
    (a_best_for : PySem.W.findIn K (.ref cB) "best_for" = some (some (.ref f_best_for)))
    (i_best_for : PySem.W.isFn K (.ref f_best_for) = true)
    (l_best_for : K.lookup f_best_for = some ⟨oc_best_for, od_best_for, .func (PySem.W.fnOf "best_for" "Book.best_for" (defArgs s_best_for) (defBody s_best_for) (defScope s_best_for) .none kV_best_for dc_best_for pm_best_for an_best_for cd_best_for ct_best_for), sl_best_for⟩)
    (c_best_for : PySem.W.codeIn K cd_best_for "Book.best_for" = true)
    (k_best_for : PySem.W.keepIn K (.ref f_best_for) = true)
    (a_rest : PySem.W.findIn K (.ref cB) "rest" = some (some (.ref f_rest)))
    (i_rest : PySem.W.isFn K (.ref f_rest) = true)
    (l_rest : K.lookup f_rest = some ⟨oc_rest, od_rest, .func (PySem.W.fnOf "rest" "Book.rest" (defArgs s_rest) (defBody s_rest) (defScope s_rest) .none kV_rest dc_rest pm_rest an_rest cd_rest ct_rest), sl_rest⟩)
    (c_rest : PySem.W.codeIn K cd_rest "Book.rest" = true)
    (k_rest : PySem.W.keepIn K (.ref f_rest) = true)
    (a_end : PySem.W.findIn K (.ref cB) "end" = some (some (.ref f_end)))
    (i_end : PySem.W.isFn K (.ref f_end) = true)
    (l_end : K.lookup f_end = some ⟨oc_end, od_end, .func (PySem.W.fnOf "end" "Book.end" (defArgs s_end) (defBody s_end) (defScope s_end) .none kV_end dc_end pm_end an_end cd_end ct_end), sl_end⟩)
    (c_end : PySem.W.codeIn K cd_end "Book.end" = true)
    (k_end : PySem.W.keepIn K (.ref f_end) = true)
    (a_trade : PySem.W.findIn K (.ref cB) "trade" = some (some (.ref f_trade)))
    (i_trade : PySem.W.isFn K (.ref f_trade) = true)
    (l_trade : K.lookup f_trade = some ⟨oc_trade, od_trade, .func (PySem.W.fnOf "trade" "Book.trade" (defArgs s_trade) (defBody s_trade) (defScope s_trade) .none kV_trade dc_trade pm_trade an_trade cd_trade ct_trade), sl_trade⟩)
    (c_trade : PySem.W.codeIn K cd_trade "Book.trade" = true)
    (k_trade : PySem.W.keepIn K (.ref f_trade) = true)
    (a_take_if_done : PySem.W.findIn K (.ref cB) "take_if_done" = some (some (.ref f_take_if_done)))
    (i_take_if_done : PySem.W.isFn K (.ref f_take_if_done) = true)
    (l_take_if_done : K.lookup f_take_if_done = some ⟨oc_take_if_done, od_take_if_done, .func (PySem.W.fnOf "take_if_done" "Book.take_if_done" (defArgs s_take_if_done) (defBody s_take_if_done) (defScope s_take_if_done) .none kV_take_if_done dc_take_if_done pm_take_if_done an_take_if_done cd_take_if_done ct_take_if_done), sl_take_if_done⟩)
    (c_take_if_done : PySem.W.codeIn K cd_take_if_done "Book.take_if_done" = true)
    (k_take_if_done : PySem.W.keepIn K (.ref f_take_if_done) = true)
    (a_meet : PySem.W.findIn K (.ref cB) "meet" = some (some (.ref f_meet)))
    (i_meet : PySem.W.isFn K (.ref f_meet) = true)
    (l_meet : K.lookup f_meet = some ⟨oc_meet, od_meet, .func (PySem.W.fnOf "meet" "Book.meet" (defArgs s_meet) (defBody s_meet) (defScope s_meet) .none kV_meet dc_meet pm_meet an_meet cd_meet ct_meet), sl_meet⟩)
    (c_meet : PySem.W.codeIn K cd_meet "Book.meet" = true)
    (k_meet : PySem.W.keepIn K (.ref f_meet) = true)
    (a_trade_all : PySem.W.findIn K (.ref cB) "trade_all" = some (some (.ref f_trade_all)))
    (i_trade_all : PySem.W.isFn K (.ref f_trade_all) = true)
    (l_trade_all : K.lookup f_trade_all = some ⟨oc_trade_all, od_trade_all, .func (PySem.W.fnOf "trade_all" "Book.trade_all" (defArgs s_trade_all) (defBody s_trade_all) (defScope s_trade_all) .none kV_trade_all dc_trade_all pm_trade_all an_trade_all cd_trade_all ct_trade_all), sl_trade_all⟩)
    (c_trade_all : PySem.W.codeIn K cd_trade_all "Book.trade_all" = true)
    (k_trade_all : PySem.W.keepIn K (.ref f_trade_all) = true)
    (a_others_amount : PySem.W.findIn K (.ref cB) "others_amount" = some (some (.ref f_others_amount)))
    (i_others_amount : PySem.W.isFn K (.ref f_others_amount) = true)
    (l_others_amount : K.lookup f_others_amount = some ⟨oc_others_amount, od_others_amount, .func (PySem.W.fnOf "others_amount" "Book.others_amount" (defArgs s_others_amount) (defBody s_others_amount) (defScope s_others_amount) .none kV_others_amount dc_others_amount pm_others_amount an_others_amount cd_others_amount ct_others_amount), sl_others_amount⟩)
    (c_others_amount : PySem.W.codeIn K cd_others_amount "Book.others_amount" = true)
    (k_others_amount : PySem.W.keepIn K (.ref f_others_amount) = true)
    (a_come : PySem.W.findIn K (.ref cB) "come" = some (some (.ref f_come)))
    (i_come : PySem.W.isFn K (.ref f_come) = true)
    (l_come : K.lookup f_come = some ⟨oc_come, od_come, .func (PySem.W.fnOf "come" "Book.come" (defArgs s_come) (defBody s_come) (defScope s_come) .none kV_come dc_come pm_come an_come cd_come ct_come), sl_come⟩)
    (c_come : PySem.W.codeIn K cd_come "Book.come" = true)
    (k_come : PySem.W.keepIn K (.ref f_come) = true)
    (a_leave : PySem.W.findIn K (.ref cB) "leave" = some (some (.ref f_leave)))
    (i_leave : PySem.W.isFn K (.ref f_leave) = true)
    (l_leave : K.lookup f_leave = some ⟨oc_leave, od_leave, .func (PySem.W.fnOf "leave" "Book.leave" (defArgs s_leave) (defBody s_leave) (defScope s_leave) .none kV_leave dc_leave pm_leave an_leave cd_leave ct_leave), sl_leave⟩)
    (c_leave : PySem.W.codeIn K cd_leave "Book.leave" = true)
    (k_leave : PySem.W.keepIn K (.ref f_leave) = true)
    (a_triggered : PySem.W.findIn K (.ref cB) "triggered" = some (some (.ref f_triggered)))
    (i_triggered : PySem.W.isFn K (.ref f_triggered) = true)
    (l_triggered : K.lookup f_triggered = some ⟨oc_triggered, od_triggered, .func (PySem.W.fnOf "triggered" "Book.triggered" (defArgs s_triggered) (defBody s_triggered) (defScope s_triggered) .none kV_triggered dc_triggered pm_triggered an_triggered cd_triggered ct_triggered), sl_triggered⟩)
    (c_triggered : PySem.W.codeIn K cd_triggered "Book.triggered" = true)
    (k_triggered : PySem.W.keepIn K (.ref f_triggered) = true)
    (a_trigger_all : PySem.W.findIn K (.ref cB) "trigger_all" = some (some (.ref f_trigger_all)))
    (i_trigger_all : PySem.W.isFn K (.ref f_trigger_all) = true)
    (l_trigger_all : K.lookup f_trigger_all = some ⟨oc_trigger_all, od_trigger_all, .func (PySem.W.fnOf "trigger_all" "Book.trigger_all" (defArgs s_trigger_all) (defBody s_trigger_all) (defScope s_trigger_all) .none kV_trigger_all dc_trigger_all pm_trigger_all an_trigger_all cd_trigger_all ct_trigger_all), sl_trigger_all⟩)
    (c_trigger_all : PySem.W.codeIn K cd_trigger_all "Book.trigger_all" = true)
    (k_trigger_all : PySem.W.keepIn K (.ref f_trigger_all) = true)
    (a_take : PySem.W.findIn K (.ref cB) "take" = some (some (.ref f_take)))
    (i_take : PySem.W.isFn K (.ref f_take) = true)
    (l_take : K.lookup f_take = some ⟨oc_take, od_take, .func (PySem.W.fnOf "take" "Book.take" (defArgs s_take) (defBody s_take) (defScope s_take) .none kV_take dc_take pm_take an_take cd_take ct_take), sl_take⟩)
    (c_take : PySem.W.codeIn K cd_take "Book.take" = true)
    (k_take : PySem.W.keepIn K (.ref f_take) = true)
    (a_cancel : PySem.W.findIn K (.ref cB) "cancel" = some (some (.ref f_cancel)))
    (i_cancel : PySem.W.isFn K (.ref f_cancel) = true)
    (l_cancel : K.lookup f_cancel = some ⟨oc_cancel, od_cancel, .func (PySem.W.fnOf "cancel" "Book.cancel" (defArgs s_cancel) (defBody s_cancel) (defScope s_cancel) .none kV_cancel dc_cancel pm_cancel an_cancel cd_cancel ct_cancel), sl_cancel⟩)
    (c_cancel : PySem.W.codeIn K cd_cancel "Book.cancel" = true)
    (k_cancel : PySem.W.keepIn K (.ref f_cancel) = true)
    (a_change : PySem.W.findIn K (.ref cB) "change" = some (some (.ref f_change)))
    (i_change : PySem.W.isFn K (.ref f_change) = true)
    (l_change : K.lookup f_change = some ⟨oc_change, od_change, .func (PySem.W.fnOf "change" "Book.change" (defArgs s_change) (defBody s_change) (defScope s_change) .none kV_change dc_change pm_change an_change cd_change ct_change), sl_change⟩)
    (c_change : PySem.W.codeIn K cd_change "Book.change" = true)
    (k_change : PySem.W.keepIn K (.ref f_change) = true)
    (a_price_now : PySem.W.findIn K (.ref cB) "price_now" = some (some (.ref f_price_now)))
    (i_price_now : PySem.W.isFn K (.ref f_price_now) = true)
    (l_price_now : K.lookup f_price_now = some ⟨oc_price_now, od_price_now, .func (PySem.W.fnOf "price_now" "Book.price_now" (defArgs s_price_now) (defBody s_price_now) (defScope s_price_now) .none kV_price_now dc_price_now pm_price_now an_price_now cd_price_now ct_price_now), sl_price_now⟩)
    (c_price_now : PySem.W.codeIn K cd_price_now "Book.price_now" = true)
    (k_price_now : PySem.W.keepIn K (.ref f_price_now) = true)
    (a_trade_at : PySem.W.findIn K (.ref cB) "trade_at" = some (some (.ref f_trade_at)))
    (i_trade_at : PySem.W.isFn K (.ref f_trade_at) = true)
    (l_trade_at : K.lookup f_trade_at = some ⟨oc_trade_at, od_trade_at, .func (PySem.W.fnOf "trade_at" "Book.trade_at" (defArgs s_trade_at) (defBody s_trade_at) (defScope s_trade_at) .none kV_trade_at dc_trade_at pm_trade_at an_trade_at cd_trade_at ct_trade_at), sl_trade_at⟩)
    (c_trade_at : PySem.W.codeIn K cd_trade_at "Book.trade_at" = true)
    (k_trade_at : PySem.W.keepIn K (.ref f_trade_at) = true)
    (a_begin_auction : PySem.W.findIn K (.ref cB) "begin_auction" = some (some (.ref f_begin_auction)))
    (i_begin_auction : PySem.W.isFn K (.ref f_begin_auction) = true)
    (l_begin_auction : K.lookup f_begin_auction = some ⟨oc_begin_auction, od_begin_auction, .func (PySem.W.fnOf "begin_auction" "Book.begin_auction" (defArgs s_begin_auction) (defBody s_begin_auction) (defScope s_begin_auction) .none kV_begin_auction dc_begin_auction pm_begin_auction an_begin_auction cd_begin_auction ct_begin_auction), sl_begin_auction⟩)
    (c_begin_auction : PySem.W.codeIn K cd_begin_auction "Book.begin_auction" = true)
    (k_begin_auction : PySem.W.keepIn K (.ref f_begin_auction) = true)
    (a_end_auction : PySem.W.findIn K (.ref cB) "end_auction" = some (some (.ref f_end_auction)))
    (i_end_auction : PySem.W.isFn K (.ref f_end_auction) = true)
    (l_end_auction : K.lookup f_end_auction = some ⟨oc_end_auction, od_end_auction, .func (PySem.W.fnOf "end_auction" "Book.end_auction" (defArgs s_end_auction) (defBody s_end_auction) (defScope s_end_auction) .none kV_end_auction dc_end_auction pm_end_auction an_end_auction cd_end_auction ct_end_auction), sl_end_auction⟩)
    (c_end_auction : PySem.W.codeIn K cd_end_auction "Book.end_auction" = true)
    (k_end_auction : PySem.W.keepIn K (.ref f_end_auction) = true)
    (a_best_told : PySem.W.findIn K (.ref cB) "best_told" = some (some (.ref f_best_told)))
    (i_best_told : PySem.W.isFn K (.ref f_best_told) = true)
    (l_best_told : K.lookup f_best_told = some ⟨oc_best_told, od_best_told, .func (PySem.W.fnOf "best_told" "Book.best_told" (defArgs s_best_told) (defBody s_best_told) (defScope s_best_told) .none kV_best_told dc_best_told pm_best_told an_best_told cd_best_told ct_best_told), sl_best_told⟩)
    (c_best_told : PySem.W.codeIn K cd_best_told "Book.best_told" = true)
    (k_best_told : PySem.W.keepIn K (.ref f_best_told) = true)
    (a_looked : PySem.W.findIn K (.ref cB) "looked" = some (some (.ref f_looked)))
    (i_looked : PySem.W.isFn K (.ref f_looked) = true)
    (l_looked : K.lookup f_looked = some ⟨oc_looked, od_looked, .func (PySem.W.fnOf "looked" "Book.looked" (defArgs s_looked) (defBody s_looked) (defScope s_looked) .none kV_looked dc_looked pm_looked an_looked cd_looked ct_looked), sl_looked⟩)
    (c_looked : PySem.W.codeIn K cd_looked "Book.looked" = true)
    (k_looked : PySem.W.keepIn K (.ref f_looked) = true)
    (a_events_told : PySem.W.nsIn K mainGlobals "events_told" = some (some (.ref f_events_told)))
    (l_events_told : K.lookup f_events_told = some ⟨oc_events_told, od_events_told, .func (PySem.W.fnOf "events_told" "events_told" (defArgs s_events_told) (defBody s_events_told) (defScope s_events_told) .none kV_events_told dc_events_told pm_events_told an_events_told cd_events_told ct_events_told), sl_events_told⟩)
    (c_events_told : PySem.W.codeIn K cd_events_told "events_told" = true)
    (k_events_told : PySem.W.keepIn K (.ref f_events_told) = true)
    (a_order_told : PySem.W.nsIn K mainGlobals "order_told" = some (some (.ref f_order_told)))
    (l_order_told : K.lookup f_order_told = some ⟨oc_order_told, od_order_told, .func (PySem.W.fnOf "order_told" "order_told" (defArgs s_order_told) (defBody s_order_told) (defScope s_order_told) .none kV_order_told dc_order_told pm_order_told an_order_told cd_order_told ct_order_told), sl_order_told⟩)
    (c_order_told : PySem.W.codeIn K cd_order_told "order_told" = true)
    (k_order_told : PySem.W.keepIn K (.ref f_order_told) = true)
    (a_cancel_told : PySem.W.nsIn K mainGlobals "cancel_told" = some (some (.ref f_cancel_told)))
    (l_cancel_told : K.lookup f_cancel_told = some ⟨oc_cancel_told, od_cancel_told, .func (PySem.W.fnOf "cancel_told" "cancel_told" (defArgs s_cancel_told) (defBody s_cancel_told) (defScope s_cancel_told) .none kV_cancel_told dc_cancel_told pm_cancel_told an_cancel_told cd_cancel_told ct_cancel_told), sl_cancel_told⟩)
    (c_cancel_told : PySem.W.codeIn K cd_cancel_told "cancel_told" = true)
    (k_cancel_told : PySem.W.keepIn K (.ref f_cancel_told) = true)
    (a_change_told : PySem.W.nsIn K mainGlobals "change_told" = some (some (.ref f_change_told)))
    (l_change_told : K.lookup f_change_told = some ⟨oc_change_told, od_change_told, .func (PySem.W.fnOf "change_told" "change_told" (defArgs s_change_told) (defBody s_change_told) (defScope s_change_told) .none kV_change_told dc_change_told pm_change_told an_change_told cd_change_told ct_change_told), sl_change_told⟩)
    (c_change_told : PySem.W.codeIn K cd_change_told "change_told" = true)
    (k_change_told : PySem.W.keepIn K (.ref f_change_told) = true)
    (a_auction_told : PySem.W.nsIn K mainGlobals "auction_told" = some (some (.ref f_auction_told)))
    (l_auction_told : K.lookup f_auction_told = some ⟨oc_auction_told, od_auction_told, .func (PySem.W.fnOf "auction_told" "auction_told" (defArgs s_auction_told) (defBody s_auction_told) (defScope s_auction_told) .none kV_auction_told dc_auction_told pm_auction_told an_auction_told cd_auction_told ct_auction_told), sl_auction_told⟩)
    (c_auction_told : PySem.W.codeIn K cd_auction_told "auction_told" = true)
    (k_auction_told : PySem.W.keepIn K (.ref f_auction_told) = true)
    (a_answered : PySem.W.nsIn K mainGlobals "answered" = some (some (.ref f_answered)))
    (l_answered : K.lookup f_answered = some ⟨oc_answered, od_answered, .func (PySem.W.fnOf "answered" "answered" (defArgs s_answered) (defBody s_answered) (defScope s_answered) .none kV_answered dc_answered pm_answered an_answered cd_answered ct_answered), sl_answered⟩)
    (c_answered : PySem.W.codeIn K cd_answered "answered" = true)
    (k_answered : PySem.W.keepIn K (.ref f_answered) = true)
    (a_answers : PySem.W.nsIn K mainGlobals "answers" = some (some (.ref f_answers)))
    (l_answers : K.lookup f_answers = some ⟨oc_answers, od_answers, .func (PySem.W.fnOf "answers" "answers" (defArgs s_answers) (defBody s_answers) (defScope s_answers) .none kV_answers dc_answers pm_answers an_answers cd_answers ct_answers), sl_answers⟩)
    (c_answers : PySem.W.codeIn K cd_answers "answers" = true)
    (k_answers : PySem.W.keepIn K (.ref f_answers) = true)
    (a_BUYS : PySem.W.nsIn K mainGlobals "BUYS" = some (some (.int (0) t_BUYS)))
    (a_SELLS : PySem.W.nsIn K mainGlobals "SELLS" = some (some (.int (1) t_SELLS)))
    (a_LIMIT : PySem.W.nsIn K mainGlobals "LIMIT" = some (some (.int (0) t_LIMIT)))
    (a_MARKET : PySem.W.nsIn K mainGlobals "MARKET" = some (some (.int (1) t_MARKET)))
    (a_ALL_AT_ONCE : PySem.W.nsIn K mainGlobals "ALL_AT_ONCE" = some (some (.int (3) t_ALL_AT_ONCE)))
    (a_ONLY_REST : PySem.W.nsIn K mainGlobals "ONLY_REST" = some (some (.int (4) t_ONLY_REST)))
    (a_STOP : PySem.W.nsIn K mainGlobals "STOP" = some (some (.int (5) t_STOP)))
    (a_STOP_LIMIT : PySem.W.nsIn K mainGlobals "STOP_LIMIT" = some (some (.int (6) t_STOP_LIMIT)))
    (a_MOST : PySem.W.nsIn K mainGlobals "MOST" = some (some (.int (1000000) t_MOST)))
    (a_MOST_OWNER : PySem.W.nsIn K mainGlobals "MOST_OWNER" = some (some (.int (255) t_MOST_OWNER)))
    (a_TRADED : PySem.W.nsIn K mainGlobals "TRADED" = some (some (.int (1) t_TRADED)))
    (a_RESTS : PySem.W.nsIn K mainGlobals "RESTS" = some (some (.int (2) t_RESTS)))
    (a_ENDED : PySem.W.nsIn K mainGlobals "ENDED" = some (some (.int (3) t_ENDED)))
    (a_TRIGGERED : PySem.W.nsIn K mainGlobals "TRIGGERED" = some (some (.int (4) t_TRIGGERED)))
    (a_CANCELLED : PySem.W.nsIn K mainGlobals "CANCELLED" = some (some (.int (1) t_CANCELLED)))
    (a_NOT_TRADED : PySem.W.nsIn K mainGlobals "NOT_TRADED" = some (some (.int (2) t_NOT_TRADED)))
    (a_NOT_ALL : PySem.W.nsIn K mainGlobals "NOT_ALL" = some (some (.int (3) t_NOT_ALL)))
    (a_WOULD_TRADE : PySem.W.nsIn K mainGlobals "WOULD_TRADE" = some (some (.int (4) t_WOULD_TRADE)))
    (a_OWN : PySem.W.nsIn K mainGlobals "OWN" = some (some (.int (5) t_OWN)))
    (a_WRONG : PySem.W.nsIn K mainGlobals "WRONG" = some (some (.int (-1) t_WRONG)))
    (a_NOT_NOW : PySem.W.nsIn K mainGlobals "NOT_NOW" = some (some (.int (-2) t_NOT_NOW)))
    (a_MOST_ORDERS : PySem.W.nsIn K mainGlobals "MOST_ORDERS" = some (some (.int (1024) t_MOST_ORDERS)))
    (a_NUMBERS : PySem.W.nsIn K mainGlobals "NUMBERS" = some (some (.ref nums)))
    (l_NUMBERS : K.lookup nums = some ⟨.type "tuple", od_NUMBERS, .seq #[.int 0 t0_NUMBERS, .int 7 t1_NUMBERS, .int 1 t2_NUMBERS, .int 3 t3_NUMBERS, .int 1 t4_NUMBERS, .int 0 t5_NUMBERS] n_NUMBERS, sl_NUMBERS⟩)
    (b_len : PySem.W.nsIn K mainGlobals "len" = some none)
    (b_min : PySem.W.nsIn K mainGlobals "min" = some none)
    (b_abs : PySem.W.nsIn K mainGlobals "abs" = some none)
    (b_sum : PySem.W.nsIn K mainGlobals "sum" = some none)
    (b_sorted : PySem.W.nsIn K mainGlobals "sorted" = some none)
    (b_set : PySem.W.nsIn K mainGlobals "set" = some none)
    : ∃ fd : FuncData, (∀ (s : Shared) (us : List Value), us.length = (["calls"] : List Str).length → BindsTo s fd ⟨us, []⟩ ((["calls"] : List Str).zip us)) ∧ ∀ base : Heap, K.In base → base.Ns mainGlobals mg → FnOk P w K mg base CX0 11 fa fd ["calls"] (spAns K) := by
  have e := hfa.symm.trans (PySem.W.mg_of X G a_answers)
  cases e
  have F_is_amount := fun_mk (st := s_is_amount) l_is_amount c_is_amount k_is_amount
  have b_is_amount := F_is_amount.binds (ps := ["number"]) fun _ _ _ _ _ _ us hl => match us, hl with | [_], _ => rfl
  have F_has_price := fun_mk (st := s_has_price) l_has_price c_has_price k_has_price
  have b_has_price := F_has_price.binds (ps := ["kind"]) fun _ _ _ _ _ _ us hl => match us, hl with | [_], _ => rfl
  have F_is_stop := fun_mk (st := s_is_stop) l_is_stop c_is_stop k_is_stop
  have b_is_stop := F_is_stop.binds (ps := ["kind"]) fun _ _ _ _ _ _ us hl => match us, hl with | [_], _ => rfl
  have F_is_order := fun_mk (st := s_is_order) l_is_order c_is_order k_is_order
  have b_is_order := F_is_order.binds (ps := ["numbers"]) fun _ _ _ _ _ _ us hl => match us, hl with | [_], _ => rfl
  have F_initO := fun_mk (st := s_initO) l_initO c_initO k_initO
  have b_initO := F_initO.binds (ps := ["self", "number", "owner", "side", "kind", "price", "amount", "trigger"]) fun _ _ _ _ _ _ us hl => match us, hl with | [_, _, _, _, _, _, _, _], _ => rfl
  have F_accepts := fun_mk (st := s_accepts) l_accepts c_accepts k_accepts
  have b_accepts := F_accepts.binds (ps := ["self", "price"]) fun _ _ _ _ _ _ us hl => match us, hl with | [_, _], _ => rfl
  have F_goes_before := fun_mk (st := s_goes_before) l_goes_before c_goes_before k_goes_before
  have b_goes_before := F_goes_before.binds (ps := ["self", "other"]) fun _ _ _ _ _ _ us hl => match us, hl with | [_, _], _ => rfl
  have F_is_triggered := fun_mk (st := s_is_triggered) l_is_triggered c_is_triggered k_is_triggered
  have b_is_triggered := F_is_triggered.binds (ps := ["self", "latest"]) fun _ _ _ _ _ _ us hl => match us, hl with | [_, _], _ => rfl
  have F_order_of := fun_mk (st := s_order_of) l_order_of c_order_of k_order_of
  have b_order_of := F_order_of.binds (ps := ["numbers"]) fun _ _ _ _ _ _ us hl => match us, hl with | [_], _ => rfl
  have F_amounts_by_price := fun_mk (st := s_amounts_by_price) l_amounts_by_price c_amounts_by_price k_amounts_by_price
  have b_amounts_by_price := F_amounts_by_price.binds (ps := ["resting", "side"]) fun _ _ _ _ _ _ us hl => match us, hl with | [_, _], _ => rfl
  have F_wished_at := fun_mk (st := s_wished_at) l_wished_at c_wished_at k_wished_at
  have b_wished_at := F_wished_at.binds (ps := ["prices", "amounts"]) fun _ _ _ _ _ _ us hl => match us, hl with | [_, _], _ => rfl
  have F_distance := fun_mk (st := s_distance) l_distance c_distance k_distance
  have b_distance := F_distance.binds (ps := ["price", "latest"]) fun _ _ _ _ _ _ us hl => match us, hl with | [_, _], _ => rfl
  have F_auction_price := fun_mk (st := s_auction_price) l_auction_price c_auction_price k_auction_price
  have b_auction_price := F_auction_price.binds (ps := ["resting", "latest"]) fun _ _ _ _ _ _ us hl => match us, hl with | [_, _], _ => rfl
  have F_initB := fun_mk (st := s_initB) l_initB c_initB k_initB
  have b_initB := F_initB.binds (ps := ["self"]) fun _ _ _ _ _ _ us hl => match us, hl with | [_], _ => rfl
  have F_tell := fun_mk (st := s_tell) l_tell c_tell k_tell
  have b_tell := F_tell.binds (ps := ["self", "what", "first", "second", "price", "amount", "left"]) fun _ _ _ _ _ _ us hl => match us, hl with | [_, _, _, _, _, _, _], _ => rfl
  have F_found_in := fun_mk (st := s_found_in) l_found_in c_found_in k_found_in
  have b_found_in := F_found_in.binds (ps := ["self", "orders", "number"]) fun _ _ _ _ _ _ us hl => match us, hl with | [_, _, _], _ => rfl
  have F_resting_order := fun_mk (st := s_resting_order) l_resting_order c_resting_order k_resting_order
  have b_resting_order := F_resting_order.binds (ps := ["self", "number"]) fun _ _ _ _ _ _ us hl => match us, hl with | [_, _], _ => rfl
  have F_any_order := fun_mk (st := s_any_order) l_any_order c_any_order k_any_order
  have b_any_order := F_any_order.binds (ps := ["self", "number"]) fun _ _ _ _ _ _ us hl => match us, hl with | [_, _], _ => rfl
  have F_take_out := fun_mk (st := s_take_out) l_take_out c_take_out k_take_out
  have b_take_out := F_take_out.binds (ps := ["self", "number"]) fun _ _ _ _ _ _ us hl => match us, hl with | [_, _], _ => rfl
  have F_best := fun_mk (st := s_best) l_best c_best k_best
  have b_best := F_best.binds (ps := ["self", "side"]) fun _ _ _ _ _ _ us hl => match us, hl with | [_, _], _ => rfl
  have F_best_for := fun_mk (st := s_best_for) l_best_for c_best_for k_best_for
  have b_best_for := F_best_for.binds (ps := ["self", "order"]) fun _ _ _ _ _ _ us hl => match us, hl with | [_, _], _ => rfl
  have F_rest := fun_mk (st := s_rest) l_rest c_rest k_rest
  have b_rest := F_rest.binds (ps := ["self", "order"]) fun _ _ _ _ _ _ us hl => match us, hl with | [_, _], _ => rfl
  have F_end := fun_mk (st := s_end) l_end c_end k_end
  have b_end := F_end.binds (ps := ["self", "order", "why"]) fun _ _ _ _ _ _ us hl => match us, hl with | [_, _, _], _ => rfl
  have F_trade := fun_mk (st := s_trade) l_trade c_trade k_trade
  have b_trade := F_trade.binds (ps := ["self", "first", "second", "price"]) fun _ _ _ _ _ _ us hl => match us, hl with | [_, _, _, _], _ => rfl
  have F_take_if_done := fun_mk (st := s_take_if_done) l_take_if_done c_take_if_done k_take_if_done
  have b_take_if_done := F_take_if_done.binds (ps := ["self", "order"]) fun _ _ _ _ _ _ us hl => match us, hl with | [_, _], _ => rfl
  have F_meet := fun_mk (st := s_meet) l_meet c_meet k_meet
  have b_meet := F_meet.binds (ps := ["self", "order", "other"]) fun _ _ _ _ _ _ us hl => match us, hl with | [_, _, _], _ => rfl
  have F_trade_all := fun_mk (st := s_trade_all) l_trade_all c_trade_all k_trade_all
  have b_trade_all := F_trade_all.binds (ps := ["self", "order"]) fun _ _ _ _ _ _ us hl => match us, hl with | [_, _], _ => rfl
  have F_others_amount := fun_mk (st := s_others_amount) l_others_amount c_others_amount k_others_amount
  have b_others_amount := F_others_amount.binds (ps := ["self", "order"]) fun _ _ _ _ _ _ us hl => match us, hl with | [_, _], _ => rfl
  have F_come := fun_mk (st := s_come) l_come c_come k_come
  have b_come := F_come.binds (ps := ["self", "order"]) fun _ _ _ _ _ _ us hl => match us, hl with | [_, _], _ => rfl
  have F_leave := fun_mk (st := s_leave) l_leave c_leave k_leave
  have b_leave := F_leave.binds (ps := ["self", "order"]) fun _ _ _ _ _ _ us hl => match us, hl with | [_, _], _ => rfl
  have F_triggered := fun_mk (st := s_triggered) l_triggered c_triggered k_triggered
  have b_triggered := F_triggered.binds (ps := ["self"]) fun _ _ _ _ _ _ us hl => match us, hl with | [_], _ => rfl
  have F_trigger_all := fun_mk (st := s_trigger_all) l_trigger_all c_trigger_all k_trigger_all
  have b_trigger_all := F_trigger_all.binds (ps := ["self"]) fun _ _ _ _ _ _ us hl => match us, hl with | [_], _ => rfl
  have F_take := fun_mk (st := s_take) l_take c_take k_take
  have b_take := F_take.binds (ps := ["self", "order"]) fun _ _ _ _ _ _ us hl => match us, hl with | [_, _], _ => rfl
  have F_cancel := fun_mk (st := s_cancel) l_cancel c_cancel k_cancel
  have b_cancel := F_cancel.binds (ps := ["self", "order"]) fun _ _ _ _ _ _ us hl => match us, hl with | [_, _], _ => rfl
  have F_change := fun_mk (st := s_change) l_change c_change k_change
  have b_change := F_change.binds (ps := ["self", "order", "price", "amount"]) fun _ _ _ _ _ _ us hl => match us, hl with | [_, _, _, _], _ => rfl
  have F_price_now := fun_mk (st := s_price_now) l_price_now c_price_now k_price_now
  have b_price_now := F_price_now.binds (ps := ["self"]) fun _ _ _ _ _ _ us hl => match us, hl with | [_], _ => rfl
  have F_trade_at := fun_mk (st := s_trade_at) l_trade_at c_trade_at k_trade_at
  have b_trade_at := F_trade_at.binds (ps := ["self", "price"]) fun _ _ _ _ _ _ us hl => match us, hl with | [_, _], _ => rfl
  have F_begin_auction := fun_mk (st := s_begin_auction) l_begin_auction c_begin_auction k_begin_auction
  have b_begin_auction := F_begin_auction.binds (ps := ["self"]) fun _ _ _ _ _ _ us hl => match us, hl with | [_], _ => rfl
  have F_end_auction := fun_mk (st := s_end_auction) l_end_auction c_end_auction k_end_auction
  have b_end_auction := F_end_auction.binds (ps := ["self"]) fun _ _ _ _ _ _ us hl => match us, hl with | [_], _ => rfl
  have F_best_told := fun_mk (st := s_best_told) l_best_told c_best_told k_best_told
  have b_best_told := F_best_told.binds (ps := ["self", "side"]) fun _ _ _ _ _ _ us hl => match us, hl with | [_, _], _ => rfl
  have F_looked := fun_mk (st := s_looked) l_looked c_looked k_looked
  have b_looked := F_looked.binds (ps := ["self"]) fun _ _ _ _ _ _ us hl => match us, hl with | [_], _ => rfl
  have F_events_told := fun_mk (st := s_events_told) l_events_told c_events_told k_events_told
  have b_events_told := F_events_told.binds (ps := ["book"]) fun _ _ _ _ _ _ us hl => match us, hl with | [_], _ => rfl
  have F_order_told := fun_mk (st := s_order_told) l_order_told c_order_told k_order_told
  have b_order_told := F_order_told.binds (ps := ["book", "numbers"]) fun _ _ _ _ _ _ us hl => match us, hl with | [_, _], _ => rfl
  have F_cancel_told := fun_mk (st := s_cancel_told) l_cancel_told c_cancel_told k_cancel_told
  have b_cancel_told := F_cancel_told.binds (ps := ["book", "number"]) fun _ _ _ _ _ _ us hl => match us, hl with | [_, _], _ => rfl
  have F_change_told := fun_mk (st := s_change_told) l_change_told c_change_told k_change_told
  have b_change_told := F_change_told.binds (ps := ["book", "number", "price", "amount"]) fun _ _ _ _ _ _ us hl => match us, hl with | [_, _, _, _], _ => rfl
  have F_auction_told := fun_mk (st := s_auction_told) l_auction_told c_auction_told k_auction_told
  have b_auction_told := F_auction_told.binds (ps := ["book", "on"]) fun _ _ _ _ _ _ us hl => match us, hl with | [_, _], _ => rfl
  have F_answered := fun_mk (st := s_answered) l_answered c_answered k_answered
  have b_answered := F_answered.binds (ps := ["book", "what", "numbers"]) fun _ _ _ _ _ _ us hl => match us, hl with | [_, _, _], _ => rfl
  have F_answers := fun_mk (st := s_answers) l_answers c_answers k_answers
  have b_answers := F_answers.binds (ps := ["calls"]) fun _ _ _ _ _ _ us hl => match us, hl with | [_], _ => rfl
  let A : Ad := {
    cO := cO
    cB := cB
    nums := nums
    f_is_amount := f_is_amount
    fd_is_amount := PySem.W.fnOf "is_amount" "is_amount" (defArgs s_is_amount) (defBody s_is_amount) (defScope s_is_amount) .none kV_is_amount dc_is_amount pm_is_amount an_is_amount cd_is_amount ct_is_amount
    f_has_price := f_has_price
    fd_has_price := PySem.W.fnOf "has_price" "has_price" (defArgs s_has_price) (defBody s_has_price) (defScope s_has_price) .none kV_has_price dc_has_price pm_has_price an_has_price cd_has_price ct_has_price
    f_is_stop := f_is_stop
    fd_is_stop := PySem.W.fnOf "is_stop" "is_stop" (defArgs s_is_stop) (defBody s_is_stop) (defScope s_is_stop) .none kV_is_stop dc_is_stop pm_is_stop an_is_stop cd_is_stop ct_is_stop
    f_is_order := f_is_order
    fd_is_order := PySem.W.fnOf "is_order" "is_order" (defArgs s_is_order) (defBody s_is_order) (defScope s_is_order) .none kV_is_order dc_is_order pm_is_order an_is_order cd_is_order ct_is_order
    f_initO := f_initO
    fd_initO := PySem.W.fnOf "__init__" "Order.__init__" (defArgs s_initO) (defBody s_initO) (defScope s_initO) .none kV_initO dc_initO pm_initO an_initO cd_initO ct_initO
    f_accepts := f_accepts
    fd_accepts := PySem.W.fnOf "accepts" "Order.accepts" (defArgs s_accepts) (defBody s_accepts) (defScope s_accepts) .none kV_accepts dc_accepts pm_accepts an_accepts cd_accepts ct_accepts
    f_goes_before := f_goes_before
    fd_goes_before := PySem.W.fnOf "goes_before" "Order.goes_before" (defArgs s_goes_before) (defBody s_goes_before) (defScope s_goes_before) .none kV_goes_before dc_goes_before pm_goes_before an_goes_before cd_goes_before ct_goes_before
    f_is_triggered := f_is_triggered
    fd_is_triggered := PySem.W.fnOf "is_triggered" "Order.is_triggered" (defArgs s_is_triggered) (defBody s_is_triggered) (defScope s_is_triggered) .none kV_is_triggered dc_is_triggered pm_is_triggered an_is_triggered cd_is_triggered ct_is_triggered
    f_order_of := f_order_of
    fd_order_of := PySem.W.fnOf "order_of" "order_of" (defArgs s_order_of) (defBody s_order_of) (defScope s_order_of) .none kV_order_of dc_order_of pm_order_of an_order_of cd_order_of ct_order_of
    f_amounts_by_price := f_amounts_by_price
    fd_amounts_by_price := PySem.W.fnOf "amounts_by_price" "amounts_by_price" (defArgs s_amounts_by_price) (defBody s_amounts_by_price) (defScope s_amounts_by_price) .none kV_amounts_by_price dc_amounts_by_price pm_amounts_by_price an_amounts_by_price cd_amounts_by_price ct_amounts_by_price
    f_wished_at := f_wished_at
    fd_wished_at := PySem.W.fnOf "wished_at" "wished_at" (defArgs s_wished_at) (defBody s_wished_at) (defScope s_wished_at) .none kV_wished_at dc_wished_at pm_wished_at an_wished_at cd_wished_at ct_wished_at
    f_distance := f_distance
    fd_distance := PySem.W.fnOf "distance" "distance" (defArgs s_distance) (defBody s_distance) (defScope s_distance) .none kV_distance dc_distance pm_distance an_distance cd_distance ct_distance
    f_auction_price := f_auction_price
    fd_auction_price := PySem.W.fnOf "auction_price" "auction_price" (defArgs s_auction_price) (defBody s_auction_price) (defScope s_auction_price) .none kV_auction_price dc_auction_price pm_auction_price an_auction_price cd_auction_price ct_auction_price
    f_initB := f_initB
    fd_initB := PySem.W.fnOf "__init__" "Book.__init__" (defArgs s_initB) (defBody s_initB) (defScope s_initB) .none kV_initB dc_initB pm_initB an_initB cd_initB ct_initB
    f_tell := f_tell
    fd_tell := PySem.W.fnOf "tell" "Book.tell" (defArgs s_tell) (defBody s_tell) (defScope s_tell) .none kV_tell dc_tell pm_tell an_tell cd_tell ct_tell
    f_found_in := f_found_in
    fd_found_in := PySem.W.fnOf "found_in" "Book.found_in" (defArgs s_found_in) (defBody s_found_in) (defScope s_found_in) .none kV_found_in dc_found_in pm_found_in an_found_in cd_found_in ct_found_in
    f_resting_order := f_resting_order
    fd_resting_order := PySem.W.fnOf "resting_order" "Book.resting_order" (defArgs s_resting_order) (defBody s_resting_order) (defScope s_resting_order) .none kV_resting_order dc_resting_order pm_resting_order an_resting_order cd_resting_order ct_resting_order
    f_any_order := f_any_order
    fd_any_order := PySem.W.fnOf "any_order" "Book.any_order" (defArgs s_any_order) (defBody s_any_order) (defScope s_any_order) .none kV_any_order dc_any_order pm_any_order an_any_order cd_any_order ct_any_order
    f_take_out := f_take_out
    fd_take_out := PySem.W.fnOf "take_out" "Book.take_out" (defArgs s_take_out) (defBody s_take_out) (defScope s_take_out) .none kV_take_out dc_take_out pm_take_out an_take_out cd_take_out ct_take_out
    f_best := f_best
    fd_best := PySem.W.fnOf "best" "Book.best" (defArgs s_best) (defBody s_best) (defScope s_best) .none kV_best dc_best pm_best an_best cd_best ct_best
    f_best_for := f_best_for
    fd_best_for := PySem.W.fnOf "best_for" "Book.best_for" (defArgs s_best_for) (defBody s_best_for) (defScope s_best_for) .none kV_best_for dc_best_for pm_best_for an_best_for cd_best_for ct_best_for
    f_rest := f_rest
    fd_rest := PySem.W.fnOf "rest" "Book.rest" (defArgs s_rest) (defBody s_rest) (defScope s_rest) .none kV_rest dc_rest pm_rest an_rest cd_rest ct_rest
    f_end := f_end
    fd_end := PySem.W.fnOf "end" "Book.end" (defArgs s_end) (defBody s_end) (defScope s_end) .none kV_end dc_end pm_end an_end cd_end ct_end
    f_trade := f_trade
    fd_trade := PySem.W.fnOf "trade" "Book.trade" (defArgs s_trade) (defBody s_trade) (defScope s_trade) .none kV_trade dc_trade pm_trade an_trade cd_trade ct_trade
    f_take_if_done := f_take_if_done
    fd_take_if_done := PySem.W.fnOf "take_if_done" "Book.take_if_done" (defArgs s_take_if_done) (defBody s_take_if_done) (defScope s_take_if_done) .none kV_take_if_done dc_take_if_done pm_take_if_done an_take_if_done cd_take_if_done ct_take_if_done
    f_meet := f_meet
    fd_meet := PySem.W.fnOf "meet" "Book.meet" (defArgs s_meet) (defBody s_meet) (defScope s_meet) .none kV_meet dc_meet pm_meet an_meet cd_meet ct_meet
    f_trade_all := f_trade_all
    fd_trade_all := PySem.W.fnOf "trade_all" "Book.trade_all" (defArgs s_trade_all) (defBody s_trade_all) (defScope s_trade_all) .none kV_trade_all dc_trade_all pm_trade_all an_trade_all cd_trade_all ct_trade_all
    f_others_amount := f_others_amount
    fd_others_amount := PySem.W.fnOf "others_amount" "Book.others_amount" (defArgs s_others_amount) (defBody s_others_amount) (defScope s_others_amount) .none kV_others_amount dc_others_amount pm_others_amount an_others_amount cd_others_amount ct_others_amount
    f_come := f_come
    fd_come := PySem.W.fnOf "come" "Book.come" (defArgs s_come) (defBody s_come) (defScope s_come) .none kV_come dc_come pm_come an_come cd_come ct_come
    f_leave := f_leave
    fd_leave := PySem.W.fnOf "leave" "Book.leave" (defArgs s_leave) (defBody s_leave) (defScope s_leave) .none kV_leave dc_leave pm_leave an_leave cd_leave ct_leave
    f_triggered := f_triggered
    fd_triggered := PySem.W.fnOf "triggered" "Book.triggered" (defArgs s_triggered) (defBody s_triggered) (defScope s_triggered) .none kV_triggered dc_triggered pm_triggered an_triggered cd_triggered ct_triggered
    f_trigger_all := f_trigger_all
    fd_trigger_all := PySem.W.fnOf "trigger_all" "Book.trigger_all" (defArgs s_trigger_all) (defBody s_trigger_all) (defScope s_trigger_all) .none kV_trigger_all dc_trigger_all pm_trigger_all an_trigger_all cd_trigger_all ct_trigger_all
    f_take := f_take
    fd_take := PySem.W.fnOf "take" "Book.take" (defArgs s_take) (defBody s_take) (defScope s_take) .none kV_take dc_take pm_take an_take cd_take ct_take
    f_cancel := f_cancel
    fd_cancel := PySem.W.fnOf "cancel" "Book.cancel" (defArgs s_cancel) (defBody s_cancel) (defScope s_cancel) .none kV_cancel dc_cancel pm_cancel an_cancel cd_cancel ct_cancel
    f_change := f_change
    fd_change := PySem.W.fnOf "change" "Book.change" (defArgs s_change) (defBody s_change) (defScope s_change) .none kV_change dc_change pm_change an_change cd_change ct_change
    f_price_now := f_price_now
    fd_price_now := PySem.W.fnOf "price_now" "Book.price_now" (defArgs s_price_now) (defBody s_price_now) (defScope s_price_now) .none kV_price_now dc_price_now pm_price_now an_price_now cd_price_now ct_price_now
    f_trade_at := f_trade_at
    fd_trade_at := PySem.W.fnOf "trade_at" "Book.trade_at" (defArgs s_trade_at) (defBody s_trade_at) (defScope s_trade_at) .none kV_trade_at dc_trade_at pm_trade_at an_trade_at cd_trade_at ct_trade_at
    f_begin_auction := f_begin_auction
    fd_begin_auction := PySem.W.fnOf "begin_auction" "Book.begin_auction" (defArgs s_begin_auction) (defBody s_begin_auction) (defScope s_begin_auction) .none kV_begin_auction dc_begin_auction pm_begin_auction an_begin_auction cd_begin_auction ct_begin_auction
    f_end_auction := f_end_auction
    fd_end_auction := PySem.W.fnOf "end_auction" "Book.end_auction" (defArgs s_end_auction) (defBody s_end_auction) (defScope s_end_auction) .none kV_end_auction dc_end_auction pm_end_auction an_end_auction cd_end_auction ct_end_auction
    f_best_told := f_best_told
    fd_best_told := PySem.W.fnOf "best_told" "Book.best_told" (defArgs s_best_told) (defBody s_best_told) (defScope s_best_told) .none kV_best_told dc_best_told pm_best_told an_best_told cd_best_told ct_best_told
    f_looked := f_looked
    fd_looked := PySem.W.fnOf "looked" "Book.looked" (defArgs s_looked) (defBody s_looked) (defScope s_looked) .none kV_looked dc_looked pm_looked an_looked cd_looked ct_looked
    f_events_told := f_events_told
    fd_events_told := PySem.W.fnOf "events_told" "events_told" (defArgs s_events_told) (defBody s_events_told) (defScope s_events_told) .none kV_events_told dc_events_told pm_events_told an_events_told cd_events_told ct_events_told
    f_order_told := f_order_told
    fd_order_told := PySem.W.fnOf "order_told" "order_told" (defArgs s_order_told) (defBody s_order_told) (defScope s_order_told) .none kV_order_told dc_order_told pm_order_told an_order_told cd_order_told ct_order_told
    f_cancel_told := f_cancel_told
    fd_cancel_told := PySem.W.fnOf "cancel_told" "cancel_told" (defArgs s_cancel_told) (defBody s_cancel_told) (defScope s_cancel_told) .none kV_cancel_told dc_cancel_told pm_cancel_told an_cancel_told cd_cancel_told ct_cancel_told
    f_change_told := f_change_told
    fd_change_told := PySem.W.fnOf "change_told" "change_told" (defArgs s_change_told) (defBody s_change_told) (defScope s_change_told) .none kV_change_told dc_change_told pm_change_told an_change_told cd_change_told ct_change_told
    f_auction_told := f_auction_told
    fd_auction_told := PySem.W.fnOf "auction_told" "auction_told" (defArgs s_auction_told) (defBody s_auction_told) (defScope s_auction_told) .none kV_auction_told dc_auction_told pm_auction_told an_auction_told cd_auction_told ct_auction_told
    f_answered := f_answered
    fd_answered := PySem.W.fnOf "answered" "answered" (defArgs s_answered) (defBody s_answered) (defScope s_answered) .none kV_answered dc_answered pm_answered an_answered cd_answered ct_answered
    f_answers := fa
    fd_answers := PySem.W.fnOf "answers" "answers" (defArgs s_answers) (defBody s_answers) (defScope s_answers) .none kV_answers dc_answers pm_answers an_answers cd_answers ct_answers }
  have T : All K mg A := {
    c_Order := ⟨pgO, hdO, poO, saO⟩
    c_Book := ⟨pgB, hdB, poB, saB⟩
    n_number := n_number
    n_owner := n_owner
    n_side := n_side
    n_kind := n_kind
    n_price := n_price
    n_amount := n_amount
    n_trigger := n_trigger
    n_resting := n_resting
    n_waiting := n_waiting
    n_latest := n_latest
    n_auction := n_auction
    n_events := n_events
    mk_Order := ⟨mkO, a_initO, i_initO, kcO⟩
    mk_Book := ⟨mkB, a_initB, i_initB, kcB⟩
    g_Order := PySem.W.mg_of X G aO
    g_Book := PySem.W.mg_of X G aB
    F_is_amount := F_is_amount
    b_is_amount := b_is_amount
    g_is_amount := PySem.W.mg_of X G a_is_amount
    k_is_amount := k_is_amount
    F_has_price := F_has_price
    b_has_price := b_has_price
    g_has_price := PySem.W.mg_of X G a_has_price
    k_has_price := k_has_price
    F_is_stop := F_is_stop
    b_is_stop := b_is_stop
    g_is_stop := PySem.W.mg_of X G a_is_stop
    k_is_stop := k_is_stop
    F_is_order := F_is_order
    b_is_order := b_is_order
    g_is_order := PySem.W.mg_of X G a_is_order
    k_is_order := k_is_order
    F_initO := F_initO
    b_initO := b_initO
    F_accepts := F_accepts
    b_accepts := b_accepts
    m_accepts := ⟨a_accepts, i_accepts, k_accepts⟩
    F_goes_before := F_goes_before
    b_goes_before := b_goes_before
    m_goes_before := ⟨a_goes_before, i_goes_before, k_goes_before⟩
    F_is_triggered := F_is_triggered
    b_is_triggered := b_is_triggered
    m_is_triggered := ⟨a_is_triggered, i_is_triggered, k_is_triggered⟩
    F_order_of := F_order_of
    b_order_of := b_order_of
    g_order_of := PySem.W.mg_of X G a_order_of
    k_order_of := k_order_of
    F_amounts_by_price := F_amounts_by_price
    b_amounts_by_price := b_amounts_by_price
    g_amounts_by_price := PySem.W.mg_of X G a_amounts_by_price
    k_amounts_by_price := k_amounts_by_price
    F_wished_at := F_wished_at
    b_wished_at := b_wished_at
    g_wished_at := PySem.W.mg_of X G a_wished_at
    k_wished_at := k_wished_at
    F_distance := F_distance
    b_distance := b_distance
    g_distance := PySem.W.mg_of X G a_distance
    k_distance := k_distance
    F_auction_price := F_auction_price
    b_auction_price := b_auction_price
    g_auction_price := PySem.W.mg_of X G a_auction_price
    k_auction_price := k_auction_price
    F_initB := F_initB
    b_initB := b_initB
    F_tell := F_tell
    b_tell := b_tell
    m_tell := ⟨a_tell, i_tell, k_tell⟩
    F_found_in := F_found_in
    b_found_in := b_found_in
    m_found_in := ⟨a_found_in, i_found_in, k_found_in⟩
    F_resting_order := F_resting_order
    b_resting_order := b_resting_order
    m_resting_order := ⟨a_resting_order, i_resting_order, k_resting_order⟩
    F_any_order := F_any_order
    b_any_order := b_any_order
    m_any_order := ⟨a_any_order, i_any_order, k_any_order⟩
    F_take_out := F_take_out
    b_take_out := b_take_out
    m_take_out := ⟨a_take_out, i_take_out, k_take_out⟩
    F_best := F_best
    b_best := b_best
    m_best := ⟨a_best, i_best, k_best⟩
    F_best_for := F_best_for
    b_best_for := b_best_for
    m_best_for := ⟨a_best_for, i_best_for, k_best_for⟩
    F_rest := F_rest
    b_rest := b_rest
    m_rest := ⟨a_rest, i_rest, k_rest⟩
    F_end := F_end
    b_end := b_end
    m_end := ⟨a_end, i_end, k_end⟩
    F_trade := F_trade
    b_trade := b_trade
    m_trade := ⟨a_trade, i_trade, k_trade⟩
    F_take_if_done := F_take_if_done
    b_take_if_done := b_take_if_done
    m_take_if_done := ⟨a_take_if_done, i_take_if_done, k_take_if_done⟩
    F_meet := F_meet
    b_meet := b_meet
    m_meet := ⟨a_meet, i_meet, k_meet⟩
    F_trade_all := F_trade_all
    b_trade_all := b_trade_all
    m_trade_all := ⟨a_trade_all, i_trade_all, k_trade_all⟩
    F_others_amount := F_others_amount
    b_others_amount := b_others_amount
    m_others_amount := ⟨a_others_amount, i_others_amount, k_others_amount⟩
    F_come := F_come
    b_come := b_come
    m_come := ⟨a_come, i_come, k_come⟩
    F_leave := F_leave
    b_leave := b_leave
    m_leave := ⟨a_leave, i_leave, k_leave⟩
    F_triggered := F_triggered
    b_triggered := b_triggered
    m_triggered := ⟨a_triggered, i_triggered, k_triggered⟩
    F_trigger_all := F_trigger_all
    b_trigger_all := b_trigger_all
    m_trigger_all := ⟨a_trigger_all, i_trigger_all, k_trigger_all⟩
    F_take := F_take
    b_take := b_take
    m_take := ⟨a_take, i_take, k_take⟩
    F_cancel := F_cancel
    b_cancel := b_cancel
    m_cancel := ⟨a_cancel, i_cancel, k_cancel⟩
    F_change := F_change
    b_change := b_change
    m_change := ⟨a_change, i_change, k_change⟩
    F_price_now := F_price_now
    b_price_now := b_price_now
    m_price_now := ⟨a_price_now, i_price_now, k_price_now⟩
    F_trade_at := F_trade_at
    b_trade_at := b_trade_at
    m_trade_at := ⟨a_trade_at, i_trade_at, k_trade_at⟩
    F_begin_auction := F_begin_auction
    b_begin_auction := b_begin_auction
    m_begin_auction := ⟨a_begin_auction, i_begin_auction, k_begin_auction⟩
    F_end_auction := F_end_auction
    b_end_auction := b_end_auction
    m_end_auction := ⟨a_end_auction, i_end_auction, k_end_auction⟩
    F_best_told := F_best_told
    b_best_told := b_best_told
    m_best_told := ⟨a_best_told, i_best_told, k_best_told⟩
    F_looked := F_looked
    b_looked := b_looked
    m_looked := ⟨a_looked, i_looked, k_looked⟩
    F_events_told := F_events_told
    b_events_told := b_events_told
    g_events_told := PySem.W.mg_of X G a_events_told
    k_events_told := k_events_told
    F_order_told := F_order_told
    b_order_told := b_order_told
    g_order_told := PySem.W.mg_of X G a_order_told
    k_order_told := k_order_told
    F_cancel_told := F_cancel_told
    b_cancel_told := b_cancel_told
    g_cancel_told := PySem.W.mg_of X G a_cancel_told
    k_cancel_told := k_cancel_told
    F_change_told := F_change_told
    b_change_told := b_change_told
    g_change_told := PySem.W.mg_of X G a_change_told
    k_change_told := k_change_told
    F_auction_told := F_auction_told
    b_auction_told := b_auction_told
    g_auction_told := PySem.W.mg_of X G a_auction_told
    k_auction_told := k_auction_told
    F_answered := F_answered
    b_answered := b_answered
    g_answered := PySem.W.mg_of X G a_answered
    k_answered := k_answered
    F_answers := F_answers
    b_answers := b_answers
    g_answers := PySem.W.mg_of X G a_answers
    k_answers := k_answers
    g_BUYS := ⟨_, PySem.W.mg_of X G a_BUYS⟩
    g_SELLS := ⟨_, PySem.W.mg_of X G a_SELLS⟩
    g_LIMIT := ⟨_, PySem.W.mg_of X G a_LIMIT⟩
    g_MARKET := ⟨_, PySem.W.mg_of X G a_MARKET⟩
    g_ALL_AT_ONCE := ⟨_, PySem.W.mg_of X G a_ALL_AT_ONCE⟩
    g_ONLY_REST := ⟨_, PySem.W.mg_of X G a_ONLY_REST⟩
    g_STOP := ⟨_, PySem.W.mg_of X G a_STOP⟩
    g_STOP_LIMIT := ⟨_, PySem.W.mg_of X G a_STOP_LIMIT⟩
    g_MOST := ⟨_, PySem.W.mg_of X G a_MOST⟩
    g_MOST_OWNER := ⟨_, PySem.W.mg_of X G a_MOST_OWNER⟩
    g_TRADED := ⟨_, PySem.W.mg_of X G a_TRADED⟩
    g_RESTS := ⟨_, PySem.W.mg_of X G a_RESTS⟩
    g_ENDED := ⟨_, PySem.W.mg_of X G a_ENDED⟩
    g_TRIGGERED := ⟨_, PySem.W.mg_of X G a_TRIGGERED⟩
    g_CANCELLED := ⟨_, PySem.W.mg_of X G a_CANCELLED⟩
    g_NOT_TRADED := ⟨_, PySem.W.mg_of X G a_NOT_TRADED⟩
    g_NOT_ALL := ⟨_, PySem.W.mg_of X G a_NOT_ALL⟩
    g_WOULD_TRADE := ⟨_, PySem.W.mg_of X G a_WOULD_TRADE⟩
    g_OWN := ⟨_, PySem.W.mg_of X G a_OWN⟩
    g_WRONG := ⟨_, PySem.W.mg_of X G a_WRONG⟩
    g_NOT_NOW := ⟨_, PySem.W.mg_of X G a_NOT_NOW⟩
    g_MOST_ORDERS := ⟨_, PySem.W.mg_of X G a_MOST_ORDERS⟩
    g_NUMBERS := PySem.W.mg_of X G a_NUMBERS
    t_NUMBERS := fun _ => .inr ⟨_, _, _, l_NUMBERS, rfl, rfl, (by show 6 ≤ sizeLine; decide), (.cons ⟨_, rfl⟩ (.cons ⟨_, rfl⟩ (.cons ⟨_, rfl⟩ (.cons ⟨_, rfl⟩ (.cons ⟨_, rfl⟩ (.cons ⟨_, rfl⟩ .nil))))))⟩
    b_len := PySem.W.mg_none_of X G b_len
    b_min := PySem.W.mg_none_of X G b_min
    b_abs := PySem.W.mg_none_of X G b_abs
    b_sum := PySem.W.mg_none_of X G b_sum
    b_sorted := PySem.W.mg_none_of X G b_sorted
    b_set := PySem.W.mg_none_of X G b_set }
  exact ⟨A.fd_answers, fun s us hu => match us, hu with | [_], _ => .of_eq rfl, fun base _ _ => ok_answers T⟩
end SB
open PySem PySem.W PyProof.Rows
set_option maxRecDepth 100000 in
set_option maxHeartbeats 0 in
theorem PySem.Challenge.cw_stallbook_s01_answers_holds : PySem.Challenge.rw_stallbook_s01_answers.Holds := by
  w_on; k_headS; (case hw => exact ⟨[.list []], by decide +kernel, by decide +kernel⟩)
  k_fillS
  refine L2.walk_specK (r := PySem.Challenge.rw_stallbook_s01_answers) (k := 11) (CX := L2.CX0) (ps := ["calls"]) (sp := SB.spAns) (by decide +kernel) rfl rfl ⟨rfl, by decide, by decide⟩ (fun w h Y => PySem.W.kIn_of Y) ?F ?S (fun _ _ _ _ z => z)
  case F =>
    intro w mg fa h Y KX G hmg
    refine' SB.all_mk KX G hmg ?aO ?aB ?pgO ?hdO ?poO ?saO ?mkO ?kcO ?pgB ?hdB ?poB ?saB ?mkB ?kcB ?n_number ?n_owner ?n_side ?n_kind ?n_price ?n_amount ?n_trigger ?n_resting ?n_waiting ?n_latest ?n_auction ?n_events ?a_is_amount ?l_is_amount ?c_is_amount ?k_is_amount ?a_has_price ?l_has_price ?c_has_price ?k_has_price ?a_is_stop ?l_is_stop ?c_is_stop ?k_is_stop ?a_is_order ?l_is_order ?c_is_order ?k_is_order ?a_initO ?i_initO ?l_initO ?c_initO ?k_initO ?a_accepts ?i_accepts ?l_accepts ?c_accepts ?k_accepts ?a_goes_before ?i_goes_before ?l_goes_before ?c_goes_before ?k_goes_before ?a_is_triggered ?i_is_triggered ?l_is_triggered ?c_is_triggered ?k_is_triggered ?a_order_of ?l_order_of ?c_order_of ?k_order_of ?a_amounts_by_price ?l_amounts_by_price ?c_amounts_by_price ?k_amounts_by_price ?a_wished_at ?l_wished_at ?c_wished_at ?k_wished_at ?a_distance ?l_distance ?c_distance ?k_distance ?a_auction_price ?l_auction_price ?c_auction_price ?k_auction_price ?a_initB ?i_initB ?l_initB ?c_initB ?k_initB ?a_tell ?i_tell ?l_tell ?c_tell ?k_tell ?a_found_in ?i_found_in ?l_found_in ?c_found_in ?k_found_in ?a_resting_order ?i_resting_order ?l_resting_order ?c_resting_order ?k_resting_order ?a_any_order ?i_any_order ?l_any_order ?c_any_order ?k_any_order ?a_take_out ?i_take_out ?l_take_out ?c_take_out ?k_take_out ?a_best ?i_best ?l_best ?c_best ?k_best ?a_best_for ?i_best_for ?l_best_for ?c_best_for ?k_best_for ?a_rest ?i_rest ?l_rest ?c_rest ?k_rest ?a_end ?i_end ?l_end ?c_end ?k_end ?a_trade ?i_trade ?l_trade ?c_trade ?k_trade ?a_take_if_done ?i_take_if_done ?l_take_if_done ?c_take_if_done ?k_take_if_done ?a_meet ?i_meet ?l_meet ?c_meet ?k_meet ?a_trade_all ?i_trade_all ?l_trade_all ?c_trade_all ?k_trade_all ?a_others_amount ?i_others_amount ?l_others_amount ?c_others_amount ?k_others_amount ?a_come ?i_come ?l_come ?c_come ?k_come ?a_leave ?i_leave ?l_leave ?c_leave ?k_leave ?a_triggered ?i_triggered ?l_triggered ?c_triggered ?k_triggered ?a_trigger_all ?i_trigger_all ?l_trigger_all ?c_trigger_all ?k_trigger_all ?a_take ?i_take ?l_take ?c_take ?k_take ?a_cancel ?i_cancel ?l_cancel ?c_cancel ?k_cancel ?a_change ?i_change ?l_change ?c_change ?k_change ?a_price_now ?i_price_now ?l_price_now ?c_price_now ?k_price_now ?a_trade_at ?i_trade_at ?l_trade_at ?c_trade_at ?k_trade_at ?a_begin_auction ?i_begin_auction ?l_begin_auction ?c_begin_auction ?k_begin_auction ?a_end_auction ?i_end_auction ?l_end_auction ?c_end_auction ?k_end_auction ?a_best_told ?i_best_told ?l_best_told ?c_best_told ?k_best_told ?a_looked ?i_looked ?l_looked ?c_looked ?k_looked ?a_events_told ?l_events_told ?c_events_told ?k_events_told ?a_order_told ?l_order_told ?c_order_told ?k_order_told ?a_cancel_told ?l_cancel_told ?c_cancel_told ?k_cancel_told ?a_change_told ?l_change_told ?c_change_told ?k_change_told ?a_auction_told ?l_auction_told ?c_auction_told ?k_auction_told ?a_answered ?l_answered ?c_answered ?k_answered ?a_answers ?l_answers ?c_answers ?k_answers ?a_BUYS ?a_SELLS ?a_LIMIT ?a_MARKET ?a_ALL_AT_ONCE ?a_ONLY_REST ?a_STOP ?a_STOP_LIMIT ?a_MOST ?a_MOST_OWNER ?a_TRADED ?a_RESTS ?a_ENDED ?a_TRIGGERED ?a_CANCELLED ?a_NOT_TRADED ?a_NOT_ALL ?a_WOULD_TRADE ?a_OWN ?a_WRONG ?a_NOT_NOW ?a_MOST_ORDERS ?a_NUMBERS ?l_NUMBERS ?b_len ?b_min ?b_abs ?b_sum ?b_sorted ?b_set
    (case aO => k_is)
    (case aB => k_is)
    (case pgO => k_is)
    (case hdO => k_is)
    (case poO => k_is)
    (case saO => k_is)
    (case mkO => k_is)
    (case kcO => k_is)
    (case pgB => k_is)
    (case hdB => k_is)
    (case poB => k_is)
    (case saB => k_is)
    (case mkB => k_is)
    (case kcB => k_is)
    (case n_number => k_is)
    (case n_owner => k_is)
    (case n_side => k_is)
    (case n_kind => k_is)
    (case n_price => k_is)
    (case n_amount => k_is)
    (case n_trigger => k_is)
    (case n_resting => k_is)
    (case n_waiting => k_is)
    (case n_latest => k_is)
    (case n_auction => k_is)
    (case n_events => k_is)
    (case a_is_amount => k_is)
    (case l_is_amount => k_is)
    (case c_is_amount => k_is)
    (case k_is_amount => k_is)
    (case a_has_price => k_is)
    (case l_has_price => k_is)
    (case c_has_price => k_is)
    (case k_has_price => k_is)
    (case a_is_stop => k_is)
    (case l_is_stop => k_is)
    (case c_is_stop => k_is)
    (case k_is_stop => k_is)
    (case a_is_order => k_is)
    (case l_is_order => k_is)
    (case c_is_order => k_is)
    (case k_is_order => k_is)
    (case a_initO => k_is)
    (case i_initO => k_is)
    (case l_initO => k_is)
    (case c_initO => k_is)
    (case k_initO => k_is)
    (case a_accepts => k_is)
    (case i_accepts => k_is)
    (case l_accepts => k_is)
    (case c_accepts => k_is)
    (case k_accepts => k_is)
    (case a_goes_before => k_is)
    (case i_goes_before => k_is)
    (case l_goes_before => k_is)
    (case c_goes_before => k_is)
    (case k_goes_before => k_is)
    (case a_is_triggered => k_is)
    (case i_is_triggered => k_is)
    (case l_is_triggered => k_is)
    (case c_is_triggered => k_is)
    (case k_is_triggered => k_is)
    (case a_order_of => k_is)
    (case l_order_of => k_is)
    (case c_order_of => k_is)
    (case k_order_of => k_is)
    (case a_amounts_by_price => k_is)
    (case l_amounts_by_price => k_is)
    (case c_amounts_by_price => k_is)
    (case k_amounts_by_price => k_is)
    (case a_wished_at => k_is)
    (case l_wished_at => k_is)
    (case c_wished_at => k_is)
    (case k_wished_at => k_is)
    (case a_distance => k_is)
    (case l_distance => k_is)
    (case c_distance => k_is)
    (case k_distance => k_is)
    (case a_auction_price => k_is)
    (case l_auction_price => k_is)
    (case c_auction_price => k_is)
    (case k_auction_price => k_is)
    (case a_initB => k_is)
    (case i_initB => k_is)
    (case l_initB => k_is)
    (case c_initB => k_is)
    (case k_initB => k_is)
    (case a_tell => k_is)
    (case i_tell => k_is)
    (case l_tell => k_is)
    (case c_tell => k_is)
    (case k_tell => k_is)
    (case a_found_in => k_is)
    (case i_found_in => k_is)
    (case l_found_in => k_is)
    (case c_found_in => k_is)
    (case k_found_in => k_is)
    (case a_resting_order => k_is)
    (case i_resting_order => k_is)
    (case l_resting_order => k_is)
    (case c_resting_order => k_is)
    (case k_resting_order => k_is)
    (case a_any_order => k_is)
    (case i_any_order => k_is)
    (case l_any_order => k_is)
    (case c_any_order => k_is)
    (case k_any_order => k_is)
    (case a_take_out => k_is)
    (case i_take_out => k_is)
    (case l_take_out => k_is)
    (case c_take_out => k_is)
    (case k_take_out => k_is)
    (case a_best => k_is)
    (case i_best => k_is)
    (case l_best => k_is)
    (case c_best => k_is)
    (case k_best => k_is)
    (case a_best_for => k_is)
    (case i_best_for => k_is)
    (case l_best_for => k_is)
    (case c_best_for => k_is)
    (case k_best_for => k_is)
    (case a_rest => k_is)
    (case i_rest => k_is)
    (case l_rest => k_is)
    (case c_rest => k_is)
    (case k_rest => k_is)
    (case a_end => k_is)
    (case i_end => k_is)
    (case l_end => k_is)
    (case c_end => k_is)
    (case k_end => k_is)
    (case a_trade => k_is)
    (case i_trade => k_is)
    (case l_trade => k_is)
    (case c_trade => k_is)
    (case k_trade => k_is)
    (case a_take_if_done => k_is)
    (case i_take_if_done => k_is)
    (case l_take_if_done => k_is)
    (case c_take_if_done => k_is)
    (case k_take_if_done => k_is)
    (case a_meet => k_is)
    (case i_meet => k_is)
    (case l_meet => k_is)
    (case c_meet => k_is)
    (case k_meet => k_is)
    (case a_trade_all => k_is)
    (case i_trade_all => k_is)
    (case l_trade_all => k_is)
    (case c_trade_all => k_is)
    (case k_trade_all => k_is)
    (case a_others_amount => k_is)
    (case i_others_amount => k_is)
    (case l_others_amount => k_is)
    (case c_others_amount => k_is)
    (case k_others_amount => k_is)
    (case a_come => k_is)
    (case i_come => k_is)
    (case l_come => k_is)
    (case c_come => k_is)
    (case k_come => k_is)
    (case a_leave => k_is)
    (case i_leave => k_is)
    (case l_leave => k_is)
    (case c_leave => k_is)
    (case k_leave => k_is)
    (case a_triggered => k_is)
    (case i_triggered => k_is)
    (case l_triggered => k_is)
    (case c_triggered => k_is)
    (case k_triggered => k_is)
    (case a_trigger_all => k_is)
    (case i_trigger_all => k_is)
    (case l_trigger_all => k_is)
    (case c_trigger_all => k_is)
    (case k_trigger_all => k_is)
    (case a_take => k_is)
    (case i_take => k_is)
    (case l_take => k_is)
    (case c_take => k_is)
    (case k_take => k_is)
    (case a_cancel => k_is)
    (case i_cancel => k_is)
    (case l_cancel => k_is)
    (case c_cancel => k_is)
    (case k_cancel => k_is)
    (case a_change => k_is)
    (case i_change => k_is)
    (case l_change => k_is)
    (case c_change => k_is)
    (case k_change => k_is)
    (case a_price_now => k_is)
    (case i_price_now => k_is)
    (case l_price_now => k_is)
    (case c_price_now => k_is)
    (case k_price_now => k_is)
    (case a_trade_at => k_is)
    (case i_trade_at => k_is)
    (case l_trade_at => k_is)
    (case c_trade_at => k_is)
    (case k_trade_at => k_is)
    (case a_begin_auction => k_is)
    (case i_begin_auction => k_is)
    (case l_begin_auction => k_is)
    (case c_begin_auction => k_is)
    (case k_begin_auction => k_is)
    (case a_end_auction => k_is)
    (case i_end_auction => k_is)
    (case l_end_auction => k_is)
    (case c_end_auction => k_is)
    (case k_end_auction => k_is)
    (case a_best_told => k_is)
    (case i_best_told => k_is)
    (case l_best_told => k_is)
    (case c_best_told => k_is)
    (case k_best_told => k_is)
    (case a_looked => k_is)
    (case i_looked => k_is)
    (case l_looked => k_is)
    (case c_looked => k_is)
    (case k_looked => k_is)
    (case a_events_told => k_is)
    (case l_events_told => k_is)
    (case c_events_told => k_is)
    (case k_events_told => k_is)
    (case a_order_told => k_is)
    (case l_order_told => k_is)
    (case c_order_told => k_is)
    (case k_order_told => k_is)
    (case a_cancel_told => k_is)
    (case l_cancel_told => k_is)
    (case c_cancel_told => k_is)
    (case k_cancel_told => k_is)
    (case a_change_told => k_is)
    (case l_change_told => k_is)
    (case c_change_told => k_is)
    (case k_change_told => k_is)
    (case a_auction_told => k_is)
    (case l_auction_told => k_is)
    (case c_auction_told => k_is)
    (case k_auction_told => k_is)
    (case a_answered => k_is)
    (case l_answered => k_is)
    (case c_answered => k_is)
    (case k_answered => k_is)
    (case a_answers => k_is)
    (case l_answers => k_is)
    (case c_answers => k_is)
    (case k_answers => k_is)
    (case a_BUYS => k_is)
    (case a_SELLS => k_is)
    (case a_LIMIT => k_is)
    (case a_MARKET => k_is)
    (case a_ALL_AT_ONCE => k_is)
    (case a_ONLY_REST => k_is)
    (case a_STOP => k_is)
    (case a_STOP_LIMIT => k_is)
    (case a_MOST => k_is)
    (case a_MOST_OWNER => k_is)
    (case a_TRADED => k_is)
    (case a_RESTS => k_is)
    (case a_ENDED => k_is)
    (case a_TRIGGERED => k_is)
    (case a_CANCELLED => k_is)
    (case a_NOT_TRADED => k_is)
    (case a_NOT_ALL => k_is)
    (case a_WOULD_TRADE => k_is)
    (case a_OWN => k_is)
    (case a_WRONG => k_is)
    (case a_NOT_NOW => k_is)
    (case a_MOST_ORDERS => k_is)
    (case a_NUMBERS => k_is)
    (case l_NUMBERS => k_is)
    (case b_len => k_is)
    (case b_min => k_is)
    (case b_abs => k_is)
    (case b_sum => k_is)
    (case b_sorted => k_is)
    (case b_set => k_is)
  case S =>
    intro K H xs a hO hwi hask hx
    cases hx with
    | cons h1 h2 =>
      cases h2
      cases h1 with
      | lst hs ha =>
        have e := L2.ints_dw a.1 _ ha
        subst e
        have q : ((Codec.inLen 0 30000 a.1 && a.1.all (Codec.inInt (-2147483648) 2147483647)) && true) = true := hwi
        rw [Bool.and_eq_true, Bool.and_eq_true] at q
        exact ⟨_, a.1, rfl, hs, (Codec.inNat_iff.mp q.1.1).2, hask, fun H' p hp => .lst (L2.SqL.of hp) (L2.dw_ints _)⟩
#print axioms PySem.Challenge.cw_stallbook_s01_answers_holds
