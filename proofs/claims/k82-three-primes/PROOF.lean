import PyProof.Rows.All
import Wide.All
import OpenK.AllK
import Wide.FinOn
import HandS.ForMost
import HandS.Defaults
import HandS.Head0
import HandS.Head1
import HandS.Head2
import HandS.HeadEnd
import HandS.HeadHook1
import HandS.HeadHook2
import Lean
import PySem.Challenge.RW_whoacts_k82_whole_three_primes_tell_alik
import HandS.Deep
import HandS.Strs
import HandS.IsInst
import HandS.TupAny
import HandS.TupMul
import HandS.Style
import HandS.Wide
import HandS.SetFor
import HandS.More
import KE.KIndexOf
import KE.GoesMore
import KE.GoesEnum
import KE.KDictPairs
import PyProof.ReprRoads
import PyProof.Rows.SetFrom
set_option Elab.async false
set_option linter.all false
set_option maxRecDepth 100000
set_option maxHeartbeats 0
/-! The head: the top run once by the kernel, the facts of the defs read off it. It stands first: so its memory is free again for the rest. -/
namespace Wa
open PySem PySem.Spec PyProof.Rows L2
/-- the i-th statement of the joined text -/
def topS (i : Nat) : Stmt := PySem.Challenge.pw_whoacts_k82_whole_three_primes_tell_alik.main.body.getD i (.Pass ⟨0, 0, 0, 0⟩)
abbrev topD (x : Str) (i : Nat) (dfl : List He.Dv) : He.DefD := ⟨(x, none), x, x, defArgs (topS i), defBody (topS i), defScope (topS i), dfl, []⟩
abbrev fnL0 : List He.DefD := [topD "_law_feed" 68 [], topD "_law_worlds" 73 [], topD "_law_draw" 69 [], topD "_law_any" 70 [], topD "_law_up" 72 [], topD "_law_roots" 74 [], topD "_law_chart" 75 [], topD "_law_near" 83 [], topD "_law_cut" 82 [], topD "_law_threes" 85 [], topD "want" 42 [.int (-1)], topD "is_pair" 33 [], topD "is_whole_number" 30 [], topD "is_undivided" 1 [], topD "is_small_prime" 32 [], topD "prime_fault" 37 [], topD "power_in" 2 [], topD "move_fault" 38 [], topD "row_fault" 39 [], topD "table_fault" 40 [], topD "want_table" 43 [.str "table"], topD "want_both" 46 [], topD "web_in" 6 [], topD "movers_in" 7 [], topD "rows_in" 5 [], topD "moved_by" 10 [], topD "log_in" 18 [], topD "row_power" 21 [], topD "power_in_rows" 22 [], topD "alike_in" 23 []]
abbrev fnL1 : List He.DefD := [topD "cut_in" 12 [], topD "is_like_part" 56 [], topD "size_in" 3 [], topD "moved_out" 50 [], topD "parts_in" 52 [], topD "alike_parts_in" 57 [], topD "parts_alike" 58 [], topD "_law_web" 80 [], topD "_law_movers" 77 [], topD "_law_row" 78 [], topD "_law_power_between" 79 [], topD "_law_are_alike" 81 [], topD "_law_many" 86 [], topD "_law_same" 71 [], topD "are_alike" 48 [], topD "_law_are_told" 87 [], topD "are_rising" 34 [], topD "are_primes_among" 35 [], topD "want_primes" 44 [.str "primes"], topD "cut_to" 60 [], topD "_law_pairs_tell" 88 [], topD "part_count" 54 [], topD "_law_factors" 76 [], topD "_law_twist" 84 [], topD "is_count" 31 [], topD "subsets_of" 14 [], topD "moved_in" 8 [], topD "other_moved" 62 [], topD "movers_on" 11 [], topD "struck_by" 17 []]
abbrev fnL2 : List He.DefD := [topD "weight_of" 15 [], topD "logs_at" 19 [], topD "many_with" 63 [], topD "still_in" 9 [], topD "twisted_in" 64 [], topD "twisted_count" 66 [], topD "_law_counts_go" 89 [], topD "law" 90 []]
abbrev fnL : List He.DefD := fnL0 ++ fnL1 ++ fnL2
abbrev faL0 : List He.Fa := [.glo "_law_feed", .glo "_law_worlds", .glo "_law_draw", .glo "_law_any", .glo "_law_up", .glo "_law_roots", .glo "_law_chart", .glo "_law_near", .glo "_law_cut", .glo "_law_threes", .glo "want", .glo "is_pair", .glo "is_whole_number", .glo "is_undivided", .glo "is_small_prime", .glo "prime_fault", .glo "power_in", .glo "move_fault", .glo "row_fault", .glo "table_fault", .glo "want_table", .glo "want_both", .glo "web_in", .glo "movers_in", .glo "rows_in", .glo "moved_by", .glo "log_in", .glo "row_power", .glo "power_in_rows", .glo "alike_in"]
abbrev faL1 : List He.Fa := [.glo "cut_in", .glo "is_like_part", .glo "size_in", .glo "moved_out", .glo "parts_in", .glo "alike_parts_in", .glo "parts_alike", .glo "_law_web", .glo "_law_movers", .glo "_law_row", .glo "_law_power_between", .glo "_law_are_alike", .glo "_law_many", .glo "_law_same", .glo "are_alike", .glo "_law_are_told", .glo "are_rising", .glo "are_primes_among", .glo "want_primes", .glo "cut_to", .glo "_law_pairs_tell", .glo "part_count", .glo "_law_factors", .glo "_law_twist", .glo "is_count", .glo "subsets_of", .glo "moved_in", .glo "other_moved", .glo "movers_on", .glo "struck_by"]
abbrev faL2 : List He.Fa := [.glo "weight_of", .glo "logs_at", .glo "many_with", .glo "still_in", .glo "twisted_in", .glo "twisted_count", .glo "_law_counts_go", .glo "law", .free "isinstance", .free "int", .free "bool", .free "tuple", .free "len", .free "range", .free "dict", .free "sorted", .free "set", .free "all", .free "any", .free "sum", .free "repr", .free "enumerate", .free "list", .int "TOP" 10000]
abbrev faL : List He.Fa := faL0 ++ faL1 ++ faL2
abbrev nm0 : List Str := ["is_undivided", "power_in", "size_in", "rows_in", "web_in", "movers_in", "moved_in", "still_in", "moved_by", "movers_on", "cut_in", "subsets_of", "weight_of", "struck_by", "log_in", "logs_at", "row_power", "power_in_rows", "alike_in", "ActError"]
abbrev nm1 : List Str := ["TableError", "NotUsable", "TOP", "is_whole_number", "is_count", "is_small_prime", "is_pair", "are_rising", "are_primes_among", "prime_fault", "move_fault", "row_fault", "table_fault", "want", "want_table", "want_primes", "want_both", "are_alike", "moved_out", "parts_in"]
abbrev nm2 : List Str := ["part_count", "is_like_part", "alike_parts_in", "parts_alike", "cut_to", "other_moved", "many_with", "twisted_in", "twisted_count", "_law_feed", "_law_draw", "_law_any", "_law_same", "_law_up", "_law_worlds", "_law_roots", "_law_chart", "_law_factors", "_law_movers", "_law_row"]
abbrev nm3 : List Str := ["_law_power_between", "_law_web", "_law_are_alike", "_law_cut", "_law_near", "_law_twist", "_law_threes", "_law_many", "_law_are_told", "_law_pairs_tell", "_law_counts_go"]
abbrev nm : List Str := nm0 ++ nm1 ++ nm2 ++ nm3
abbrev theRow : PySem.W.OpenRow := PySem.W.OpenLaw.row PySem.Challenge.rw_whoacts_k82_whole_three_primes_tell_alik
abbrev hk : PySem.W.Hook := He.hookD 2 faL fnL
def ob (s : PySem.W.SharedT) : He.AlD := He.obsDG 2 faL fnL (HandSHeadRun.getT s)
theorem ob_eq (s : PySem.W.SharedT) : ob s = hk.obs s.abs := He.obsDG_eq (HandSHeadRun.getT_eq s)
theorem run (w : World) : HandSHeadRun.RunEq theRow (PySem.W.view theRow.prog [90]) hk ob 4000 nm w := by
  intro os
  kernel_rfl
end Wa
set_option maxHeartbeats 4000000
/-! The data layer: values as nested data, expressions by what data they come to. -/
namespace Wa
open PySem PySem.Spec PyProof.Rows L2

inductive D where
  | non | bl (b : Bool) | int (i : Int) | str (s : Str) | tup (xs : List D) | tuf (xs : List D) | lst (xs : List D) | dic (kvs : List (Int × D))

def Ex (H H' : Hp) : Prop := ∀ a o, H a = some o → H' a = some o
theorem Ex.rfl' (H : Hp) : Ex H H := fun _ _ h => h
theorem Ex.tr {H H1 H2 : Hp} (a : Ex H H1) (b : Ex H1 H2) : Ex H H2 := fun x o h => b x o (a x o h)
theorem Ex.new {H : Hp} {p : Addr} {o : HO} (h : H p = none) : Ex H (upd H p o) := fun a u e => by
  rw [upd_ne (ne_of_none e h)]
  exact e
theorem Ex.rd {H H' : Hp} (e : Ex H H') {a : Addr} {u : HO} (h : Rd H a u) : Rd H' a u := by
  rcases h with h | ⟨o, h⟩
  · exact .inl (e _ _ h)
  · exact .inr ⟨o, e _ _ h⟩

/-! ### what data a value holds -/
mutual
inductive Rp (G : Hp) : V → D → Prop
  | non : Rp G .non .non
  | bl (b : Bool) : Rp G (.bl b) (.bl b)
  | int (i : Int) : Rp G (.int i) (.int i)
  | str (x : Str) : Rp G (.str x) (.str x)
  | tup {a : Addr} {vs : List V} {ds : List D} : Rd G a (.tup vs) → RpA G vs ds → Rp G (.ref a) (.tup ds)
  | tuf {a : Addr} {o : Obj} {vs : List V} {ds : List D} : G a = some (.frz o (.tup vs)) → o.dict = none → RpA G vs ds → Rp G (.ref a) (.tuf ds)
  | lst {a : Addr} {vs : List V} {ds : List D} : G a = some (.lst vs) → RpA G vs ds → Rp G (.ref a) (.lst ds)
  | dic {a : Addr} {ks : List (Key × V)} {ds : List (Int × D)} : Rd G a (.dK ks) → RpK G ks ds → Rp G (.ref a) (.dic ds)
inductive RpA (G : Hp) : List V → List D → Prop
  | nil : RpA G [] []
  | cons {v : V} {vs : List V} {d : D} {ds : List D} : Rp G v d → RpA G vs ds → RpA G (v :: vs) (d :: ds)
inductive RpK (G : Hp) : List (Key × V) → List (Int × D) → Prop
  | nil : RpK G [] []
  | cons {k : Int} {v : V} {ks : List (Key × V)} {d : D} {ds : List (Int × D)} : Rp G v d → RpK G ks ds → RpK G ((Sum.inl k, v) :: ks) ((k, d) :: ds)
end

section
variable {G G' : Hp}
/-- lists and tuples are kept, dicts may be read -/
structure Lk (G G' : Hp) : Prop where
  t : ∀ a vs, Rd G a (.tup vs) → Rd G' a (.tup vs)
  f : ∀ a o vs, G a = some (.frz o (.tup vs)) → G' a = some (.frz o (.tup vs))
  l : ∀ a vs, G a = some (.lst vs) → G' a = some (.lst vs)
  d : ∀ a ks, Rd G a (.dK ks) → Rd G' a (.dK ks)
theorem Ex.lk (e : Ex G G') : Lk G G' := ⟨fun _ _ h => e.rd h, fun a _ _ h => e a _ h, fun a _ h => e a _ h, fun _ _ h => e.rd h⟩
mutual
theorem Rp.mv (e : Lk G G') : ∀ {v : V} {d : D}, Rp G v d → Rp G' v d
  | _, _, .non => .non
  | _, _, .bl b => .bl b
  | _, _, .int i => .int i
  | _, _, .str x => .str x
  | _, _, .tup h a => .tup (e.t _ _ h) (RpA.mv e a)
  | _, _, .tuf h hd a => .tuf (e.f _ _ _ h) hd (RpA.mv e a)
  | _, _, .lst h a => .lst (e.l _ _ h) (RpA.mv e a)
  | _, _, .dic h a => .dic (e.d _ _ h) (RpK.mv e a)
theorem RpA.mv (e : Lk G G') : ∀ {vs : List V} {ds : List D}, RpA G vs ds → RpA G' vs ds
  | _, _, .nil => .nil
  | _, _, .cons a b => .cons (Rp.mv e a) (RpA.mv e b)
theorem RpK.mv (e : Lk G G') : ∀ {vs : List (Key × V)} {ds : List (Int × D)}, RpK G vs ds → RpK G' vs ds
  | _, _, .nil => .nil
  | _, _, .cons a b => .cons (Rp.mv e a) (RpK.mv e b)
end
theorem Rp.mono {v : V} {d : D} (h : Rp G v d) (e : Ex G G') : Rp G' v d := Rp.mv e.lk h
theorem RpA.mono {v : List V} {d : List D} (h : RpA G v d) (e : Ex G G') : RpA G' v d := RpA.mv e.lk h
theorem RpK.mono {v : List (Key × V)} {d : List (Int × D)} (h : RpK G v d) (e : Ex G G') : RpK G' v d := RpK.mv e.lk h
/-- the items of a tuple -/
def D.items : D → Option (List D)
  | .tup xs => some xs
  | .tuf xs => some xs
  | _ => none
theorem Rp.items {v : V} {d : D} {ds : List D} (h : Rp G v d) (e : d.items = some ds) : ∃ a vs, v = .ref a ∧ Rd G a (.tup vs) ∧ RpA G vs ds := by
  cases h with
  | tup h a =>
    cases e
    exact ⟨_, _, rfl, h, a⟩
  | tuf h hd a =>
    cases e
    exact ⟨_, _, rfl, .inr ⟨_, h⟩, a⟩
  | non => cases e
  | bl => cases e
  | int => cases e
  | str => cases e
  | lst => cases e
  | dic => cases e
theorem Rp.weak {v : V} {ds : List D} (h : Rp G v (.tuf ds)) : Rp G v (.tup ds) := by
  cases h with
  | tuf h hd a => exact .tup (.inr ⟨_, h⟩) a
theorem RpA.length : ∀ {vs : List V} {ds : List D}, RpA G vs ds → vs.length = ds.length
  | _, _, .nil => rfl
  | _, _, .cons _ b => by rw [List.length_cons, List.length_cons, RpA.length b]
theorem RpA.get : ∀ {vs : List V} {ds : List D} {i : Nat} {d : D}, RpA G vs ds → ds[i]? = some d → ∃ v, vs[i]? = some v ∧ Rp G v d
  | _, _, _, _, .nil, h => by simp at h
  | _, _, 0, _, .cons a _, h => by
    simp at h
    subst h
    exact ⟨_, rfl, a⟩
  | _, _, i + 1, _, .cons _ b, h => by
    obtain ⟨v, h1, h2⟩ := RpA.get (i := i) b (by simpa using h)
    exact ⟨v, by simpa using h1, h2⟩
theorem RpA.at : ∀ {vs : List V} {ds : List D} {i : Nat} {v : V}, RpA G vs ds → vs[i]? = some v → ∃ d, ds[i]? = some d ∧ Rp G v d
  | _, _, _, _, .nil, h => by simp at h
  | _, _, 0, _, .cons a _, h => by
    simp at h
    subst h
    exact ⟨_, rfl, a⟩
  | _, _, i + 1, _, .cons _ b, h => by
    obtain ⟨v, h1, h2⟩ := RpA.at (i := i) b (by simpa using h)
    exact ⟨v, by simpa using h1, h2⟩
theorem RpA.app : ∀ {vs ws : List V} {ds es : List D}, RpA G vs ds → RpA G ws es → RpA G (vs ++ ws) (ds ++ es)
  | _, _, _, _, .nil, h => h
  | _, _, _, _, .cons a b, h => .cons a (RpA.app b h)
theorem RpA.set {v : V} {d : D} (r : Rp G v d) : ∀ {vs : List V} {ds : List D} (i : Nat), RpA G vs ds → RpA G (vs.set i v) (ds.set i d)
  | _, _, _, .nil => .nil
  | _, _, 0, .cons _ b => .cons r b
  | _, _, i + 1, .cons a b => .cons a (RpA.set r i b)
theorem RpA.drop : ∀ {vs : List V} {ds : List D} (i : Nat), RpA G vs ds → RpA G (vs.drop i) (ds.drop i)
  | _, _, 0, h => h
  | _, _, _ + 1, .nil => .nil
  | _, _, i + 1, .cons _ b => RpA.drop i b
theorem RpA.take : ∀ {vs : List V} {ds : List D} (i : Nat), RpA G vs ds → RpA G (vs.take i) (ds.take i)
  | _, _, 0, _ => .nil
  | _, _, _ + 1, .nil => .nil
  | _, _, i + 1, .cons a b => .cons a (RpA.take i b)
theorem RpA.nil_iff {vs : List V} {ds : List D} (h : RpA G vs ds) : vs = [] ↔ ds = [] := by
  cases h with
  | nil => simp
  | cons => simp
theorem RpA.ints : ∀ {vs : List V} {ns : List Int}, RpA G vs (ns.map D.int) → vs = ns.map V.int
  | _, [], h => by
    cases h
    rfl
  | _, n :: ns, h => by
    cases h with
    | cons a b =>
      cases a
      rw [RpA.ints b] <;> rfl
theorem RpA.of_ints : ∀ (ns : List Int), RpA G (ns.map V.int) (ns.map D.int)
  | [] => .nil
  | n :: ns => .cons (.int n) (RpA.of_ints ns)
theorem RpA.bls : ∀ {vs : List V} {ns : List Bool}, RpA G vs (ns.map D.bl) → vs = ns.map V.bl
  | _, [], h => by
    cases h
    rfl
  | _, n :: ns, h => by
    cases h with
    | cons a b =>
      cases a
      rw [RpA.bls b] <;> rfl

/-! dicts by their keys -/
def getD' (ds : List (Int × D)) (k : Int) : Option D := (ds.find? fun kv => decide (kv.1 = k)).map (·.2)
def putD (ds : List (Int × D)) (k : Int) (d : D) : List (Int × D) :=
  if (ds.any fun kv => decide (kv.1 = k)) = true then ds.map (fun kv => if kv.1 = k then (kv.1, d) else kv) else ds ++ [(k, d)]
def mergeD (ds more : List (Int × D)) : List (Int × D) := more.foldl (fun acc kv => putD acc kv.1 kv.2) ds
theorem RpK.val : ∀ {ks : List (Key × V)} {ds : List (Int × D)} (k : Int), RpK G ks ds → (getD' ds k = none ∧ valV ks (Sum.inl k) = none) ∨ ∃ d v, getD' ds k = some d ∧ valV ks (Sum.inl k) = some v ∧ Rp G v d
  | _, _, k, .nil => .inl ⟨rfl, rfl⟩
  | _, _, k, @RpK.cons _ j v ks d ds a b => by
    unfold getD' valV
    rw [List.find?_cons, List.find?_cons]
    by_cases h : j = k
    · subst h
      rw [decide_eq_true rfl, decide_eq_true rfl]
      exact .inr ⟨d, v, rfl, rfl, a⟩
    · rw [decide_eq_false h, decide_eq_false (show ¬ (Sum.inl j : Key) = Sum.inl k from fun q => h (Sum.inl.inj q))]
      exact RpK.val k b
end
end Wa
set_option maxHeartbeats 4000000
/-! Steps of the heap, slots by data, and the judgements for expressions. -/
namespace Wa
open PySem PySem.Spec PyProof.Rows L2

theorem dec_inl {j k : Int} : decide ((Sum.inl j : Key) = Sum.inl k) = decide (j = k) := by
  by_cases h : j = k
  · subst h
    rw [decide_eq_true rfl, decide_eq_true rfl]
  · rw [decide_eq_false h, decide_eq_false fun q => h (Sum.inl.inj q)]
section
variable {G : Hp}
theorem RpK.any {k : Int} : ∀ {ks : List (Key × V)} {ds : List (Int × D)}, RpK G ks ds → (ks.any fun kv => decide (kv.1 = Sum.inl k)) = (ds.any fun kv => decide (kv.1 = k))
  | _, _, .nil => rfl
  | _, _, .cons a b => by
    rw [List.any_cons, List.any_cons, RpK.any b, dec_inl]
theorem RpK.app : ∀ {ks ks' : List (Key × V)} {ds ds' : List (Int × D)}, RpK G ks ds → RpK G ks' ds' → RpK G (ks ++ ks') (ds ++ ds')
  | _, _, _, _, .nil, h => h
  | _, _, _, _, .cons a b, h => .cons a (RpK.app b h)
theorem RpK.upd1 {k : Int} {v : V} {d : D} (r : Rp G v d) : ∀ {ks : List (Key × V)} {ds : List (Int × D)}, RpK G ks ds →
    RpK G (ks.map fun kv => if kv.1 = Sum.inl k then (kv.1, v) else kv) (ds.map fun kv => if kv.1 = k then (kv.1, d) else kv)
  | _, _, .nil => .nil
  | _, _, @RpK.cons _ j w ks e ds a b => by
    rw [List.map_cons, List.map_cons]
    by_cases h : j = k
    · subst h
      rw [if_pos rfl, if_pos rfl]
      exact .cons r (RpK.upd1 r b)
    · rw [if_neg (show ¬ (Sum.inl j : Key) = Sum.inl k from fun q => h (Sum.inl.inj q)), if_neg h]
      exact .cons a (RpK.upd1 r b)
theorem RpK.put {k : Int} {v : V} {d : D} (r : Rp G v d) {ks : List (Key × V)} {ds : List (Int × D)} (h : RpK G ks ds) : RpK G (putK ks (Sum.inl k) v) (putD ds k d) := by
  unfold putK putD
  rw [h.any]
  split
  · exact h.upd1 r
  · exact h.app (.cons r .nil)
theorem RpK.length : ∀ {ks : List (Key × V)} {ds : List (Int × D)}, RpK G ks ds → ks.length = ds.length
  | _, _, .nil => rfl
  | _, _, .cons _ b => by rw [List.length_cons, List.length_cons, RpK.length b]
theorem RpK.merge : ∀ {ms : List (Key × V)} {es : List (Int × D)} {ks : List (Key × V)} {ds : List (Int × D)}, RpK G ks ds → RpK G ms es → RpK G (mergeK ks ms) (mergeD ds es)
  | _, _, _, _, h, .nil => h
  | _, _, _, _, h, @RpK.cons _ k v ks d ds a b => by
    have q := RpK.merge (h.put (k := k) a) b
    exact q
end

/-! ### steps -/
structure Step (S : Option Addr) (G H G' H' : Hp) : Prop where
  gg : Ex G G'
  gh : Ex G' H'
  fr : ∀ a o, G a = none → H a = some o → G' a = none ∧ ∃ o', H' a = some o' ∧ (S ≠ some a → o' = o)
theorem Step.id {S : Option Addr} {G H : Hp} (h : Ex G H) : Step S G H G H := ⟨Ex.rfl' G, h, fun _ o a b => ⟨a, o, b, fun _ => rfl⟩⟩
theorem Step.any {S : Option Addr} {G H G' H' : Hp} (s : Step none G H G' H') : Step S G H G' H' := ⟨s.gg, s.gh, fun a o h1 h2 => by
  obtain ⟨g, o', e, q⟩ := s.fr a o h1 h2
  exact ⟨g, o', e, fun _ => q nofun⟩⟩
theorem ex_none {G H : Hp} (h : Ex G H) {p : Addr} (hp : H p = none) : G p = none := by
  cases e : G p with
  | none => rfl
  | some o =>
    rw [h p o e] at hp
    cases hp
theorem Step.tr {S : Option Addr} {G H G1 H1 G2 H2 : Hp} (a : Step S G H G1 H1) (b : Step S G1 H1 G2 H2) : Step S G H G2 H2 := by
  refine ⟨a.gg.tr b.gg, b.gh, fun p o h1 h2 => ?_⟩
  obtain ⟨g1, o1, e1, k1⟩ := a.fr p o h1 h2
  obtain ⟨g2, o2, e2, k2⟩ := b.fr p o1 g1 e1
  exact ⟨g2, o2, e2, fun n => (k2 n).trans (k1 n)⟩
theorem Step.hh {G H G' H' : Hp} (s : Step none G H G' H') (gh : Ex G H) : Ex H H' := fun a o e => by
  cases q : G a with
  | some u =>
    have e2 := gh a u q
    rw [e] at e2
    cases e2
    exact s.gh a o (s.gg a o q)
  | none =>
    obtain ⟨_, o', e', k⟩ := s.fr a o q e
    rw [e', k nofun]
/-- a new object, frozen -/
theorem Step.new {S : Option Addr} {G H : Hp} {p : Addr} {o : HO} (gh : Ex G H) (hp : H p = none) : Step S G H (upd G p o) (upd H p o) := by
  have gp := ex_none gh hp
  refine ⟨Ex.new gp, fun a u e => ?_, fun a u h1 h2 => ?_⟩
  · by_cases h : a = p
    · subst h
      rw [upd_same] at e ⊢
      exact e
    · rw [upd_ne h] at e ⊢
      exact gh a u e
  · have h : a ≠ p := ne_of_none h2 hp
    exact ⟨by rw [upd_ne h]; exact h1, u, by rw [upd_ne h]; exact h2, fun _ => rfl⟩
/-- a new object, free -/
theorem Step.new0 {S : Option Addr} {G H : Hp} {p : Addr} {o : HO} (gh : Ex G H) (hp : H p = none) : Step S G H G (upd H p o) := by
  refine ⟨Ex.rfl' G, gh.tr (Ex.new hp), fun a u h1 h2 => ?_⟩
  have h : a ≠ p := ne_of_none h2 hp
  exact ⟨h1, u, by rw [upd_ne h]; exact h2, fun _ => rfl⟩
/-- a free new object is frozen later -/
theorem Step.frz {S : Option Addr} {G H G' H' : Hp} {p : Addr} {o : HO} (s : Step S G H G' H') (hp : H p = none) (gp : G' p = none) (h' : H' p = some o) : Step S G H (upd G' p o) H' := by
  refine ⟨s.gg.tr (Ex.new gp), fun a u e => ?_, fun a u h1 h2 => ?_⟩
  · by_cases h : a = p
    · subst h
      rw [upd_same] at e
      rw [h']
      exact e
    · rw [upd_ne h] at e
      exact s.gh a u e
  · have h : a ≠ p := ne_of_none h2 hp
    obtain ⟨g, r⟩ := s.fr a u h1 h2
    exact ⟨by rw [upd_ne h]; exact g, r⟩

/-! ### slots -/
def srcKv (l : Addr) (spot rest turn : Int) : List (Key × V) := [(Sum.inr "cells", .ref l), (Sum.inr "spot", .int spot), (Sum.inr "rest", .int rest), (Sum.inr "turn", .int turn)]
def SrcAt (G H : Hp) (a : Addr) : Prop := G a = none ∧ ∃ (l : Addr) (cs : List Int) (spot rest turn : Int), H a = some (.dK (srcKv l spot rest turn)) ∧ G l = some (.lst (cs.map V.int)) ∧ 0 ≤ spot ∧ 0 ≤ rest
def SrcOk (S : Option Addr) (G H : Hp) : Prop := ∀ a, S = some a → SrcAt G H a
inductive Sl where
  | un | d (x : D) | ml (xs : List D) | md (ks : List (Int × D)) | src
def SlOk (S : Option Addr) (G H : Hp) (o : Option (Option V)) : Sl → Prop
  | .un => True
  | .d x => ∃ v, o = some (some v) ∧ Rp G v x
  | .ml xs => ∃ p vs, o = some (some (.ref p)) ∧ G p = none ∧ S ≠ some p ∧ H p = some (.lst vs) ∧ RpA G vs xs
  | .md ks => ∃ p kvs, o = some (some (.ref p)) ∧ G p = none ∧ S ≠ some p ∧ H p = some (.dK kvs) ∧ RpK G kvs ks
  | .src => ∃ a, S = some a ∧ o = some (some (.ref a))
def Sl.own : Sl → Bool
  | .ml _ => true
  | .md _ => true
  | _ => false
structure StE (S : Option Addr) (G H : Hp) (σ : L2.St) (sl : List Sl) : Prop where
  gh : Ex G H
  len : σ.length = sl.length
  sls : ∀ (i : Nat) (x : Sl), sl[i]? = some x → SlOk S G H (σ[i]?) x
  src : SrcOk S G H
  ap : ∀ (i j : Nat) (x y : Sl) (p : Addr), sl[i]? = some x → sl[j]? = some y → x.own = true → y.own = true → σ[i]? = some (some (.ref p)) → σ[j]? = some (some (.ref p)) → i = j
theorem SlOk.step {S : Option Addr} {G H G' H' : Hp} {o : Option (Option V)} {x : Sl} (h : SlOk S G H o x) (st : Step S G H G' H') : SlOk S G' H' o x := by
  cases x with
  | un => trivial
  | d x =>
    obtain ⟨v, e, r⟩ := h
    exact ⟨v, e, r.mono st.gg⟩
  | ml xs =>
    obtain ⟨p, vs, e, g, s, q, r⟩ := h
    obtain ⟨g', o', e', k⟩ := st.fr p _ g q
    exact ⟨p, vs, e, g', s, by rw [e', k s], r.mono st.gg⟩
  | md ks =>
    obtain ⟨p, vs, e, g, s, q, r⟩ := h
    obtain ⟨g', o', e', k⟩ := st.fr p _ g q
    exact ⟨p, vs, e, g', s, by rw [e', k s], r.mono st.gg⟩
  | src => exact h
theorem StE.step {S : Option Addr} {G H G' H' : Hp} {σ : L2.St} {sl : List Sl} (h : StE S G H σ sl) (st : Step S G H G' H') (so : SrcOk S G' H') : StE S G' H' σ sl :=
  ⟨st.gh, h.len, fun i x e => (h.sls i x e).step st, so, h.ap⟩
theorem SrcOk.pure {S : Option Addr} {G H G' H' : Hp} (so : SrcOk S G H) (st : Step none G H G' H') : SrcOk S G' H' := fun a e => by
  obtain ⟨g, l, cs, x, y, z, q, c, r⟩ := so a e
  obtain ⟨g', o', e', k⟩ := st.fr a _ g q
  exact ⟨g', l, cs, x, y, z, by rw [e', k nofun], st.gg _ _ c, r⟩
theorem StE.pure {S : Option Addr} {G H G' H' : Hp} {σ : L2.St} {sl : List Sl} (h : StE S G H σ sl) (st : Step none G H G' H') : StE S G' H' σ sl := h.step st.any (h.src.pure st)

/-! ### judgements -/
/-- it comes to the data d, whatever the heap; all that stood stands -/
def DV (te : TE) (sl : List Sl) (d : D) : Prop := ∀ S G H σ, StE S G H σ sl → ∀ Q : VK, (∀ G' H' v, Step none G H G' H' → Rp G' v d → Q v H') → te σ H Q
def DA (ta : TA) (sl : List Sl) (ds : List D) : Prop := ∀ S G H σ, StE S G H σ sl → ∀ Q : List V → Hp → Prop, (∀ G' H' vs, Step none G H G' H' → RpA G' vs ds → Q vs H') → ta σ H Q
def DT (tt : TT) (sl : List Sl) (b : Bool) : Prop := ∀ S G H σ, StE S G H σ sl → ∀ Q : Bool → Hp → Prop, (∀ G' H', Step none G H G' H' → Q b H') → tt σ H Q
/-- .. a new list, a new dict -/
def DL (te : TE) (sl : List Sl) (xs : List D) : Prop := ∀ S G H σ, StE S G H σ sl → ∀ Q : VK, (∀ G' H' p vs, Step none G H G' H' → H p = none → G' p = none → H' p = some (.lst vs) → RpA G' vs xs → Q (.ref p) H') → te σ H Q
def DM (te : TE) (sl : List Sl) (ks : List (Int × D)) : Prop := ∀ S G H σ, StE S G H σ sl → ∀ Q : VK, (∀ G' H' p vs, Step none G H G' H' → H p = none → G' p = none → H' p = some (.dK vs) → RpK G' vs ks → Q (.ref p) H') → te σ H Q
/-- two-place operations, calls, by data -/
def OV (r : R2) (d e f : D) : Prop := ∀ G H x y, Ex G H → Rp G x d → Rp G y e → ∀ Q : VK, (∀ G' H' v, Step none G H G' H' → Rp G' v f → Q v H') → r x y H Q
def OL (r : R2) (d e : D) (xs : List D) : Prop := ∀ G H x y, Ex G H → Rp G x d → Rp G y e → ∀ Q : VK, (∀ G' H' p vs, Step none G H G' H' → H p = none → G' p = none → H' p = some (.lst vs) → RpA G' vs xs → Q (.ref p) H') → r x y H Q
def CV (r : List V → Hp → VK → Prop) (ds : List D) (f : D) : Prop := ∀ G H vs, Ex G H → RpA G vs ds → ∀ Q : VK, (∀ G' H' v, Step none G H G' H' → Rp G' v f → Q v H') → r vs H Q
def CL (r : List V → Hp → VK → Prop) (ds : List D) (xs : List D) : Prop := ∀ G H vs, Ex G H → RpA G vs ds → ∀ Q : VK, (∀ G' H' p ws, Step none G H G' H' → H p = none → G' p = none → H' p = some (.lst ws) → RpA G' ws xs → Q (.ref p) H') → r vs H Q
def CM (r : List V → Hp → VK → Prop) (ds : List D) (xs : List (Int × D)) : Prop := ∀ G H vs, Ex G H → RpA G vs ds → ∀ Q : VK, (∀ G' H' p ws, Step none G H G' H' → H p = none → G' p = none → H' p = some (.dK ws) → RpK G' ws xs → Q (.ref p) H') → r vs H Q

section
variable {sl : List Sl} {te ta tb tc : TE} {tt tu : TT} {d e f : D} {xs : List D} {ks : List (Int × D)} {r r' : R2}
theorem DV.cast {d' : D} (h : DV te sl d) (e : d = d') : DV te sl d' := e ▸ h
theorem DL.cast {d' : List D} (h : DL te sl xs) (e : xs = d') : DL te sl d' := e ▸ h
theorem DT.cast {a b : Bool} (h : DT tt sl a) (e : a = b) : DT tt sl b := e ▸ h
theorem DL.v (h : DL te sl xs) : DV te sl (.lst xs) := fun S G H σ st Q q => h S G H σ st Q fun G' H' p vs s hp gp e r =>
  q _ H' _ (s.frz hp gp e) (.lst upd_same (r.mono (Ex.new gp)))
theorem DM.v (h : DM te sl ks) : DV te sl (.dic ks) := fun S G H σ st Q q => h S G H σ st Q fun G' H' p vs s hp gp e r =>
  q _ H' _ (s.frz hp gp e) (.dic (.inl upd_same) (r.mono (Ex.new gp)))
theorem OL.v (h : OL r d e xs) : OV r d e (.lst xs) := fun G H x y gh rx ry Q q => h G H x y gh rx ry Q fun G' H' p vs s hp gp e r =>
  q _ H' _ (s.frz hp gp e) (.lst upd_same (r.mono (Ex.new gp)))
theorem CL.v {r : List V → Hp → VK → Prop} {ds : List D} (h : CL r ds xs) : CV r ds (.lst xs) := fun G H vs gh rx Q q => h G H vs gh rx Q fun G' H' p vs s hp gp e r =>
  q _ H' _ (s.frz hp gp e) (.lst upd_same (r.mono (Ex.new gp)))
theorem CM.v {r : List V → Hp → VK → Prop} {ds : List D} (h : CM r ds ks) : CV r ds (.dic ks) := fun G H vs gh rx Q q => h G H vs gh rx Q fun G' H' p vs s hp gp e r =>
  q _ H' _ (s.frz hp gp e) (.dic (.inl upd_same) (r.mono (Ex.new gp)))

theorem dv_var {i : Nat} (h : sl[i]? = some (.d d)) : DV (tVar i) sl d := fun S G H σ st Q q => by
  obtain ⟨v, e, r⟩ := st.sls i _ h
  exact ⟨v, e, q G H v (Step.id st.gh) r⟩
theorem dv_int {i : Int} : DV (tC (.int i)) sl (.int i) := fun S G H σ st Q q => q G H _ (Step.id st.gh) (.int i)
theorem dv_bl {i : Bool} : DV (tC (.bl i)) sl (.bl i) := fun S G H σ st Q q => q G H _ (Step.id st.gh) (.bl i)
theorem dv_str {i : Str} : DV (tC (.str i)) sl (.str i) := fun S G H σ st Q q => q G H _ (Step.id st.gh) (.str i)
theorem dv_non : DV (tC .non) sl .non := fun S G H σ st Q q => q G H _ (Step.id st.gh) .non
theorem dv_op (ha : DV ta sl d) (hb : DV tb sl e) (hr : OV r d e f) : DV (tOp r ta tb) sl f := fun S G H σ st Q q =>
  ha S G H σ st _ fun G1 H1 x s1 r1 => hb S G1 H1 σ (st.pure s1) _ fun G2 H2 y s2 r2 =>
    hr G2 H2 x y s2.gh (r1.mono s2.gg) r2 Q fun G3 H3 v s3 r3 => q G3 H3 v ((s1.tr s2).tr s3) r3
theorem dl_op (ha : DV ta sl d) (hb : DV tb sl e) (hr : OL r d e xs) : DL (tOp r ta tb) sl xs := fun S G H σ st Q q =>
  ha S G H σ st _ fun G1 H1 x s1 r1 => hb S G1 H1 σ (st.pure s1) _ fun G2 H2 y s2 r2 =>
    hr G2 H2 x y s2.gh (r1.mono s2.gg) r2 Q fun G3 H3 p vs s3 hp gp e3 r3 => q G3 H3 p vs ((s1.tr s2).tr s3) (by
      have h2 := (s1.tr s2).hh st.gh
      cases q0 : H p with
      | none => rfl
      | some o =>
        rw [h2 p o q0] at hp
        cases hp) gp e3 r3
theorem dv_neg {i : Int} (h : DV ta sl (.int i)) : DV (tUn (rU fun i => .int (-i)) ta) sl (.int (-i)) := fun S G H σ st Q q =>
  h S G H σ st _ fun G1 H1 x s1 r1 => by
    cases r1
    exact ⟨i, rfl, q G1 H1 _ s1 (.int _)⟩

/-! operators on ints -/
theorem ov_I0 {g : Int → Int → Int} {i j : Int} : OV (rI0 fun i j => .int (g i j)) (.int i) (.int j) (.int (g i j)) := fun G H x y gh rx ry Q q => by
  cases rx
  cases ry
  exact ⟨i, j, rfl, rfl, q G H _ (Step.id gh) (.int _)⟩
theorem ov_B0 {g : Int → Int → Bool} {i j : Int} : OV (rI0 fun i j => .bl (g i j)) (.int i) (.int j) (.bl (g i j)) := fun G H x y gh rx ry Q q => by
  cases rx
  cases ry
  exact ⟨i, j, rfl, rfl, q G H _ (Step.id gh) (.bl _)⟩
theorem ov_I {C : Int → Int → Prop} {g : Int → Int → Int} {i j : Int} (hc : C i j) : OV (rI C fun i j => .int (g i j)) (.int i) (.int j) (.int (g i j)) := fun G H x y gh rx ry Q q => by
  cases rx
  cases ry
  exact ⟨i, j, rfl, rfl, hc, q G H _ (Step.id gh) (.int _)⟩
theorem ov_eqI {i j : Int} : OV rEq (.int i) (.int j) (.bl (decide (i = j))) := fun G H x y gh rx ry Q q => by
  cases rx
  cases ry
  refine ⟨rfl, ?_⟩
  have e : decide (V.int i = V.int j) = decide (i = j) := by
    by_cases h : i = j
    · subst h
      rw [decide_eq_true rfl, decide_eq_true rfl]
    · rw [decide_eq_false h, decide_eq_false fun z => h (V.int.inj z)]
  rw [e]
  exact q G H _ (Step.id gh) (.bl _)
theorem ov_neI {i j : Int} : OV rNe (.int i) (.int j) (.bl (!decide (i = j))) := fun G H x y gh rx ry Q q => by
  cases rx
  cases ry
  refine ⟨rfl, ?_⟩
  have e : decide (V.int i = V.int j) = decide (i = j) := by
    by_cases h : i = j
    · subst h
      rw [decide_eq_true rfl, decide_eq_true rfl]
    · rw [decide_eq_false h, decide_eq_false fun z => h (V.int.inj z)]
  rw [e]
  exact q G H _ (Step.id gh) (.bl _)
theorem ov_eqB {i j : Bool} : OV rEq (.bl i) (.bl j) (.bl (decide (i = j))) := fun G H x y gh rx ry Q q => by
  cases rx
  cases ry
  refine ⟨rfl, ?_⟩
  have e : decide (V.bl i = V.bl j) = decide (i = j) := by
    cases i <;> cases j <;> rfl
  rw [e]
  exact q G H _ (Step.id gh) (.bl _)
theorem ov_eqS {i j : Str} : OV rEq (.str i) (.str j) (.bl (decide (i = j))) := fun G H x y gh rx ry Q q => by
  cases rx
  cases ry
  refine ⟨rfl, ?_⟩
  have e : decide (V.str i = V.str j) = decide (i = j) := by
    by_cases h : i = j
    · subst h
      rw [decide_eq_true rfl, decide_eq_true rfl]
    · rw [decide_eq_false h, decide_eq_false fun z => h (V.str.inj z)]
  rw [e]
  exact q G H _ (Step.id gh) (.bl _)
theorem ov_notB {i j : Bool} : OV rNotB (.bl i) (.bl j) (.bl (!decide (i = j))) := fun G H x y gh rx ry Q q => by
  cases rx
  cases ry
  exact ⟨i, j, rfl, rfl, q G H _ (Step.id gh) (.bl _)⟩
def D.isN : D → Bool
  | .non => true
  | _ => false
theorem Rp.isN {G : Hp} {x : V} {d : D} (h : Rp G x d) : decide (x = .non) = d.isN := by
  cases h <;> rfl
theorem ov_isN : OV (fun x y H Q => y = .non ∧ Q (.bl (decide (x = .non))) H) d .non (.bl d.isN) := fun G H x y gh rx ry Q q => by
  cases ry
  refine ⟨rfl, ?_⟩
  rw [rx.isN]
  exact q G H _ (Step.id gh) (.bl _)
theorem ov_notN : OV (fun x y H Q => y = .non ∧ Q (.bl (!decide (x = .non))) H) d .non (.bl (!d.isN)) := fun G H x y gh rx ry Q q => by
  cases ry
  refine ⟨rfl, ?_⟩
  rw [rx.isN]
  exact q G H _ (Step.id gh) (.bl _)
theorem dv_isN (ha : DV ta sl d) : DV (tIsN ta) sl (.bl d.isN) := fun S G H σ st Q q => ha S G H σ st _ fun G1 H1 x s1 r1 => by
  rw [r1.isN]
  exact q G1 H1 _ s1 (.bl _)
theorem dv_notN (ha : DV ta sl d) : DV (tNotN ta) sl (.bl (!d.isN)) := fun S G H σ st Q q => ha S G H σ st _ fun G1 H1 x s1 r1 => by
  rw [r1.isN]
  exact q G1 H1 _ s1 (.bl _)

/-! tests -/
theorem dt_test {b : Bool} (h : DV te sl (.bl b)) : DT (tTest te) sl b := fun S G H σ st Q q => h S G H σ st _ fun G1 H1 x s1 r1 => by
  cases r1
  exact ⟨b, rfl, q G1 H1 s1⟩
theorem dt_B {b : Bool} (h : DV te sl (.bl b)) : DT (tB te) sl b := fun S G H σ st Q q => h S G H σ st _ fun G1 H1 x s1 r1 => by
  cases r1
  exact ⟨b, rfl, q G1 H1 s1⟩
theorem dt_yes : DT tYes sl true := fun S G H σ st Q q => q G H (Step.id st.gh)
theorem dt_and {a b : Bool} (h1 : DT tt sl a) (h2 : a = true → DT tu sl b) : DT (tAnd tt tu) sl (a && b) := fun S G H σ st Q q => h1 S G H σ st _ fun G1 H1 s1 => by
  cases a with
  | true =>
    show tu σ H1 Q
    exact h2 rfl S G1 H1 σ (st.pure s1) Q fun G2 H2 s2 => q G2 H2 (s1.tr s2)
  | false =>
    show Q false H1
    exact q G1 H1 s1
theorem dt_or {a b : Bool} (h1 : DT tt sl a) (h2 : a = false → DT tu sl b) : DT (tOr tt tu) sl (a || b) := fun S G H σ st Q q => h1 S G H σ st _ fun G1 H1 s1 => by
  cases a with
  | true =>
    show Q true H1
    exact q G1 H1 s1
  | false =>
    show tu σ H1 Q
    exact h2 rfl S G1 H1 σ (st.pure s1) Q fun G2 H2 s2 => q G2 H2 (s1.tr s2)
theorem dt_not {a : Bool} (h1 : DT tt sl a) : DT (tNot tt) sl (!a) := fun S G H σ st Q q => h1 S G H σ st _ fun G1 H1 s1 => q G1 H1 s1
theorem dv_and {a b : Bool} (h1 : DV ta sl (.bl a)) (h2 : a = true → DV tb sl (.bl b)) : DV (tAndV ta tb) sl (.bl (a && b)) := fun S G H σ st Q q => h1 S G H σ st _ fun G1 H1 x s1 r1 => by
  cases r1
  refine ⟨a, rfl, ?_⟩
  cases a with
  | true =>
    show tb σ H1 Q
    exact h2 rfl S G1 H1 σ (st.pure s1) Q fun G2 H2 v s2 r2 => q G2 H2 v (s1.tr s2) r2
  | false =>
    show Q (.bl false) H1
    exact q G1 H1 _ s1 (.bl _)
theorem dv_not {a : Bool} (h1 : DV ta sl (.bl a)) : DV (tNotV ta) sl (.bl (!a)) := fun S G H σ st Q q => h1 S G H σ st _ fun G1 H1 x s1 r1 => by
  cases r1
  exact ⟨a, rfl, q G1 H1 _ s1 (.bl _)⟩
theorem dv_if {b : Bool} (h : DT tt sl b) (h1 : b = true → DV ta sl d) (h2 : b = false → DV tb sl d) : DV (tIf tt ta tb) sl d := fun S G H σ st Q q => h S G H σ st _ fun G1 H1 s1 => by
  cases b with
  | true =>
    show ta σ H1 Q
    exact h1 rfl S G1 H1 σ (st.pure s1) Q fun G2 H2 v s2 r2 => q G2 H2 v (s1.tr s2) r2
  | false =>
    show tb σ H1 Q
    exact h2 rfl S G1 H1 σ (st.pure s1) Q fun G2 H2 v s2 r2 => q G2 H2 v (s1.tr s2) r2
theorem dv_chain {a b : Bool} {g : D} (ha : DV ta sl d) (hb : DV tb sl e) (hr : OV r d e (.bl a)) (hc : a = true → DV tc sl f) (hr' : a = true → OV r' e f (.bl b)) : DV (tChain r r' ta tb tc) sl (.bl (a && b)) := fun S G H σ st Q q =>
  ha S G H σ st _ fun G1 H1 x s1 r1 => hb S G1 H1 σ (st.pure s1) _ fun G2 H2 y s2 r2 =>
    hr G2 H2 x y s2.gh (r1.mono s2.gg) r2 _ fun G3 H3 v s3 r3 => by
      cases r3
      refine ⟨a, rfl, ?_⟩
      have s13 := (s1.tr s2).tr s3
      cases a with
      | true =>
        show tc σ H3 _
        exact hc rfl S G3 H3 σ (st.pure s13) _ fun G4 H4 w s4 r4 => hr' rfl G4 H4 y w s4.gh (r2.mono (s3.gg.tr s4.gg)) r4 Q fun G5 H5 u s5 r5 => q G5 H5 u ((s13.tr s4).tr s5) r5
      | false =>
        show Q (.bl false) H3
        exact q G3 H3 _ s13 (.bl _)

/-! argument lists, displays -/
theorem da_nil : DA tNil sl [] := fun S G H σ st Q q => q G H _ (Step.id st.gh) .nil
theorem da_cons {tr : TA} {ds : List D} (h : DV ta sl d) (hr : DA tr sl ds) : DA (tCons ta tr) sl (d :: ds) := fun S G H σ st Q q =>
  h S G H σ st _ fun G1 H1 x s1 r1 => hr S G1 H1 σ (st.pure s1) _ fun G2 H2 vs s2 r2 => q G2 H2 _ (s1.tr s2) (.cons (r1.mono s2.gg) r2)
theorem dv_tup {tr : TA} {ds : List D} (h : DA tr sl ds) (hl : ds.length ≤ 1000 := by decide) : DV (tTup tr) sl (.tup ds) := fun S G H σ st Q q =>
  h S G H σ st _ fun G1 H1 vs s1 r1 => ⟨by rw [r1.length, sizeLine_eq]; omega, fun p hp => q _ _ _ (s1.tr (Step.new s1.gh hp)) (.tup (.inl upd_same) (r1.mono (Ex.new (ex_none s1.gh hp))))⟩
theorem dl_lst {tr : TA} {ds : List D} (h : DA tr sl ds) (hl : ds.length ≤ 1000 := by decide) : DL (tLst tr) sl ds := fun S G H σ st Q q =>
  h S G H σ st _ fun G1 H1 vs s1 r1 => ⟨by rw [r1.length, sizeLine_eq]; omega, fun p hp => q G1 _ p vs (s1.tr (Step.new0 s1.gh hp)) (by
      cases q0 : H p with
      | none => rfl
      | some o =>
        rw [s1.hh st.gh p o q0] at hp
        cases hp) (ex_none s1.gh hp) upd_same r1⟩
theorem dv_cb {r : List V → Hp → VK → Prop} {tr : TA} {ds : List D} (h : DA tr sl ds) (hr : CV r ds f) : DV (tCB r tr) sl f := fun S G H σ st Q q =>
  h S G H σ st _ fun G1 H1 vs s1 r1 => hr G1 H1 vs s1.gh r1 Q fun G2 H2 v s2 r2 => q G2 H2 v (s1.tr s2) r2
theorem back_none {G H G' H' : Hp} (s : Step none G H G' H') (gh : Ex G H) {p : Addr} (hp : H' p = none) : H p = none := ex_none (s.hh gh) hp
theorem dl_cb {r : List V → Hp → VK → Prop} {tr : TA} {ds : List D} (h : DA tr sl ds) (hr : CL r ds xs) : DL (tCB r tr) sl xs := fun S G H σ st Q q =>
  h S G H σ st _ fun G1 H1 vs s1 r1 => hr G1 H1 vs s1.gh r1 Q fun G2 H2 p ws s2 hp gp e2 r2 => q G2 H2 p ws (s1.tr s2) (back_none s1 st.gh hp) gp e2 r2
theorem dm_cb {r : List V → Hp → VK → Prop} {tr : TA} {ds : List D} (h : DA tr sl ds) (hr : CM r ds ks) : DM (tCB r tr) sl ks := fun S G H σ st Q q =>
  h S G H σ st _ fun G1 H1 vs s1 r1 => hr G1 H1 vs s1.gh r1 Q fun G2 H2 p ws s2 hp gp e2 r2 => q G2 H2 p ws (s1.tr s2) (back_none s1 st.gh hp) gp e2 r2
theorem dm_new : DM tDNewK sl [] := fun S G H σ st Q q p hp => q G _ p [] (Step.new0 st.gh hp) hp (ex_none st.gh hp) upd_same .nil
theorem dv_dget {ds : List (Int × D)} {k : Int} (hd : DV ta sl (.dic ds)) (hk : DV tb sl (.int k)) (h : getD' ds k = some d) : DV (tDGet ta tb) sl d := fun S G H σ st Q q =>
  hd S G H σ st _ fun G1 H1 x s1 r1 => hk S G1 H1 σ (st.pure s1) _ fun G2 H2 y s2 r2 => by
    cases r1 with
    | dic h1 h2 =>
      cases r2
      rcases h2.val k with ⟨e, _⟩ | ⟨d', v, e1, e2, r⟩
      · rw [h] at e
        cases e
      · rw [h] at e1
        cases e1
        exact ⟨_, v, rfl, .inl ⟨_, Sum.inl k, s2.gh.rd (s2.gg.rd h1), rfl, e2.symm⟩, q G2 H2 v (s1.tr s2) (r.mono s2.gg)⟩
theorem dv_din {ds : List (Int × D)} {k : Int} (hk : DV ta sl (.int k)) (hd : DV tb sl (.dic ds)) : DV (tDIn ta tb) sl (.bl (getD' ds k).isSome) := fun S G H σ st Q q =>
  hk S G H σ st _ fun G1 H1 x s1 r1 => hd S G1 H1 σ (st.pure s1) _ fun G2 H2 y s2 r2 => by
    cases r2 with
    | dic h1 h2 =>
      cases r1
      rcases h2.val k with ⟨e, e'⟩ | ⟨d', v, e1, e2, r⟩
      · refine ⟨_, none, rfl, .inl ⟨_, Sum.inl k, s2.gh.rd h1, rfl, e'.symm⟩, ?_⟩
        rw [e] at q
        exact q G2 H2 _ (s1.tr s2) (.bl _)
      · refine ⟨_, some v, rfl, .inl ⟨_, Sum.inl k, s2.gh.rd h1, rfl, e2.symm⟩, ?_⟩
        rw [e1] at q
        exact q G2 H2 _ (s1.tr s2) (.bl _)
theorem dv_dnotin {ds : List (Int × D)} {k : Int} (hk : DV ta sl (.int k)) (hd : DV tb sl (.dic ds)) : DV (tDNotIn ta tb) sl (.bl (!(getD' ds k).isSome)) := fun S G H σ st Q q =>
  hk S G H σ st _ fun G1 H1 x s1 r1 => hd S G1 H1 σ (st.pure s1) _ fun G2 H2 y s2 r2 => by
    cases r2 with
    | dic h1 h2 =>
      cases r1
      rcases h2.val k with ⟨e, e'⟩ | ⟨d', v, e1, e2, r⟩
      · refine ⟨_, none, rfl, .inl ⟨_, Sum.inl k, s2.gh.rd h1, rfl, e'.symm⟩, ?_⟩
        rw [e] at q
        exact q G2 H2 _ (s1.tr s2) (.bl _)
      · refine ⟨_, some v, rfl, .inl ⟨_, Sum.inl k, s2.gh.rd h1, rfl, e2.symm⟩, ?_⟩
        rw [e1] at q
        exact q G2 H2 _ (s1.tr s2) (.bl _)
end
end Wa
set_option maxHeartbeats 4000000
/-! Rules that the kit lacks: enumerate(tuple), dict(tuple of pairs), set(list of ints), tuple.index of ints, repr of data, defs under no guard. -/
namespace Wa
open PySem PySem.Spec PyProof.Rows L2

/-! ### enumerate of a tuple -/
theorem enumT_meets (l : Addr) (items : Array Value) (n : Nat) (dct : Option Addr) (sl : Array (Option Value)) :
    Meets (Builtin.«enumerate.__new__» ⟨[.type "enumerate", .ref l], []⟩) (fun _ R s =>
      s.heap.get? l = some { cls := .type "tuple", dict := dct, data := .seq items n, slots := sl } ∧
      R (.ok (.ret (.ref (s.heap.push { cls := .type "tuple_iterator", data := .fields #[.ref l, .int 0 0] }).objs.size)))
        { s with heap := (s.heap.push { cls := .type "tuple_iterator", data := .fields #[.ref l, .int 0 0] }).push { cls := .type "enumerate", data := .fields #[.none, .bool false, .ref s.heap.objs.size, rawInt 0, .none, .none] } }) :=
  .of_wp fun prog w A R s h => by
    obtain ⟨hp, g, d, tk, os⟩ := s
    obtain ⟨hl, h⟩ := h
    have hsub := sub_enumerate
    have hT : Heap.IsTuple (Shared.heap ⟨hp, g, d, tk, os⟩) l items := ⟨_, hl, rfl, n, rfl⟩
    have q1 : ∀ {A' : Around} {E : Value → Shared → Prop} {Q : Value → Shared → Prop},
        Q (.ref hp.objs.size) ⟨hp.push { cls := .type "tuple_iterator", data := .fields #[.ref l, .int 0 0] }, g, d, tk, os⟩ →
        wpAny (model prog w) A' (pyIter (.ref l)) Q E ⟨hp, g, d, tk, os⟩ := fun q => wpAny_pyIter_tuple hT q
    wp_walk using q1
    refine wpAny_stack_any fun st => wpAny_pure ?_
    split
    · rename_i c _ _ _ _ _
      cases (c == Value.type "enumerate")
      · wp_walk using q1
        exact ⟨_, rfl, h⟩
      · wp_walk using q1
        exact ⟨_, rfl, h⟩
    · wp_walk using q1
      exact ⟨_, rfl, h⟩
theorem call_enumT {prog : Program} {w : World} {A : Around} {E : Value → Shared → Prop} {s : Shared} {l : Addr} {items : Array Value} {Q : Value → Shared → Prop} (hL : s.heap.IsTuple l items)
    (h : ∀ h', IsEnum h' (s.heap.objs.size + 1) s.heap.objs.size 0 .none → h'.IsTupleIter s.heap.objs.size l 0 →
      (∀ b o, s.heap.get? b = some o → h'.get? b = some o) → Q (.ref (s.heap.objs.size + 1)) { s with heap := h' }) :
    wpAny (model prog w) A (call (.type "enumerate") [.ref l]) Q E s := by
  obtain ⟨⟨c, dct, dt, sl⟩, hl, hc, n, hd⟩ := hL
  replace hc : c = .type "tuple" := hc
  replace hd : dt = .seq items n := hd
  subst hc hd
  refine callType_new F.called_enumerate (by decide) (F.typeCall_enumerate_1 _) (F.newCall_enumerate_1 _)
    (fun obj => F.args_object_init_2 obj _) F.entry_enumerate_new (enumT_meets l items n dct sl) ⟨hl, ?_⟩
  have hz : (s.heap.push { cls := .type "tuple_iterator", data := .fields #[.ref l, .int 0 0] }).objs.size = s.heap.objs.size + 1 := Heap.size_push ..
  show _ ∧ _
  rw [hz]
  have he : IsEnum ((s.heap.push { cls := .type "tuple_iterator", data := .fields #[.ref l, .int 0 0] }).push
      { cls := .type "enumerate", data := .fields #[.none, .bool false, .ref s.heap.objs.size, rawInt 0, .none, .none] }) (s.heap.objs.size + 1) s.heap.objs.size 0 .none := by
    have q := Heap.get?_push_size (s.heap.push { cls := .type "tuple_iterator", data := .fields #[.ref l, .int 0 0] })
      (o := { cls := .type "enumerate", data := .fields #[.none, .bool false, .ref s.heap.objs.size, rawInt 0, .none, .none] }) rfl
    rw [hz] at q
    exact q
  refine ⟨⟨_, he, rfl⟩, h _ he ⟨{ cls := .type "tuple_iterator", data := .fields #[.ref l, .int 0 0] }, Heap.get?_push_of_some _ (Heap.get?_push_size _ rfl), rfl, rfl⟩ fun b o x => ?_⟩
  exact Heap.get?_push_of_some _ (Heap.get?_push_of_some _ x)
theorem wpAny_pyNext_enumT_end {prog : Program} {w : World} {A : Around} {E : Value → Shared → Prop} {s : Shared} {e it l : Addr} {i : Nat} {items : Array Value} {old : Value} {Q : Option Value → Shared → Prop} (hh : A.handled = none)
    (he : IsEnum s.heap e it (i : Int) old) (hit : s.heap.IsTupleIter it l i) (hl : s.heap.IsTuple l items) (hx : items[i]? = none) (hQ : ∀ h', Heap.ExtBut it s.heap h' → Q none { s with heap := h' }) :
    wpAny (model prog w) A (pyNext (.ref e)) Q E s := by
  have hT : s.TypeIs (.ref e) "enumerate" := ⟨_, he, rfl⟩
  unfold pyNext
  refine wpAny_bind (wpAny_attempt (wpAny_callSpecial?_slot (name := Str.ofString "__next__") hT F.slot_enumerate_next
    (wpAny_call_entry F.slot_enumerate_next hT F.entry_enumerate_next ?_ (F.args_enumerate_next_1 _))))
  show wpAny _ _ (field (.ref e) 2 >>= _) _ _ _
  refine wpAny_bind (wpAny_field he rfl (x := .ref it) rfl ?_)
  refine wpAny_bind (wpAny_nextOf_tuple_end (A := A.in1) hh hit hl hx fun h' x he' hx' => ?_)
  obtain ⟨o, ho, hc⟩ := hx'
  refine wpAny_bind (wpAny_isInstance (T := "StopIteration") (b := true) ⟨o, ho, hc⟩ isSubtype_stop ?_)
  exact wpAny_pure (hQ _ he')
/-- the tuple at a, its items in new pairs -/
def Iet (K : PySem.W.Frag) (a : Addr) (xs : List V) : It :=
  ⟨fun i H => SqT K H a xs ∧ i < xs.length, fun i H v H' => ∃ T x, v = .ref T ∧ H T = none ∧ H' = upd H T (.tup [.int (i : Nat), x]) ∧ xs[i]? = some x, fun i H => SqT K H a xs ∧ xs.length ≤ i⟩
theorem turn_enumT {P : Program} {w : World} {K : PySem.W.Frag} {elts : List Expr} {kk : Nat} {tpos : Pos} (a e it : Addr) (xs : List V) (hei : e ≠ it) (hea : a ≠ e) (hai : a ≠ it) :
    Turn P w K (.Tuple elts kk tpos) (Iet K a xs) [e, it] e (fun i h => (∃ old, IsEnum h e it ((i : Nat) : Int) old) ∧ h.IsTupleIter it a i) where
  mem := by simp
  obj := fun i h st b hb => by
    obtain ⟨⟨old, he⟩, ⟨o, ho, hc, hd⟩⟩ := st
    have e' : b = e ∨ b = it := by simpa using hb
    rcases e' with z | z
    · rw [z]
      exact ⟨_, he, fun v q => nomatch q⟩
    · rw [z]
      exact ⟨o, ho, fun v q => by rw [hd] at q; cases q⟩
  keep := fun i h h' st k => let ⟨⟨old, he⟩, hi⟩ := st; ⟨⟨old, k e (by simp) _ he⟩, hi.at fun o q => k it (by simp) o q⟩
  item := by
    intro X hP hw hK hc i pins s σ H E I hf st hg
    subst hP hw hK
    obtain ⟨⟨old, he⟩, hit⟩ := st
    obtain ⟨hq, hi⟩ := hg
    obtain ⟨its, rv, p, hz⟩ := I.tuple hq
    obtain ⟨u, hu, ru⟩ := rv.get (List.getElem?_eq_getElem hi)
    have hel : e < s.heap.objs.size := Heap.lt_size he
    have hil : it < s.heap.objs.size := by
      obtain ⟨_, q, _⟩ := hit
      exact Heap.lt_size q
    have hlen := rv.length
    refine wpAny_pyNext_enum_itemD (Draws.tuple (A := X.A.in1) (I.ok.hd hc) it a hai its.toArray) he ⟨hit, p⟩ (by simp; omega) hei (by simp; exact ⟨hei, Ne.symm hea⟩) fun x h' tk hx ho st' hT hsz hk => ?_
    have ex : x = u := by
      rw [List.getElem?_toArray, hu] at hx
      exact (Option.some.inj hx).symm
    subst ex
    refine ⟨_, rfl, wpAny_letOwnedTupleGo_enum (s := { s with heap := h', toks := tk + 1 }) ho fun h'' he' sb => ?_⟩
    have hT2 : h''.get? s.heap.objs.size = some { cls := .type "tuple", data := .seq #[.int i tk, x] } := (sb.2 _ (Nat.ne_of_gt hel)).trans hT
    have new : ObjOk X.prog X.w (upd H s.heap.objs.size (.tup [.int (i : Nat), xs[i]])) h'' s.heap.objs.size (.tup [.int (i : Nat), xs[i]]) :=
      ⟨by show 2 ≤ sizeLine; decide, [.int i tk, x], .cons ⟨_, rfl⟩ (.cons ru .nil), ⟨_, hT2, rfl, _, rfl⟩⟩
    have I1 : Inv X pins σ (upd H s.heap.objs.size (.tup [.int (i : Nat), xs[i]])) { s with heap := h'', toks := tk + 1 } :=
      I.turnedNew (ch := [e, it]) (fun b ob hb q => (sb.2 b (fun z => hb (by simp [z]))).trans (hk b ob (fun z => hb (by simp [z])) (fun z => hb (by simp [z])) q)) hf (Nat.le_refl _) new
    refine ⟨.ref s.heap.objs.size, _, I1, rfl, ⟨_, _, rfl, I.hok.fresh (Nat.le_refl _), rfl, List.getElem?_eq_getElem hi⟩, ⟨⟨x, ?_⟩, st'.1.at fun o q => (sb.2 it (Ne.symm hei)).trans q⟩, fun b hb => ?_⟩
    · have e1 : ((i + 1 : Nat) : Int) = (i : Int) + 1 := by omega
      rw [e1]
      exact he'
    · have hb' : b < s.heap.objs.size := by
        have e' : b = e ∨ b = it := by simpa using hb
        rcases e' with z | z
        · rw [z]
          exact hel
        · rw [z]
          exact hil
      rw [upd_ne (Nat.ne_of_lt hb')]
      exact (hf b hb).1
  done := by
    intro X hP hw hK hc i pins s σ H E I hf st hg
    subst hP hw hK
    obtain ⟨⟨old, he⟩, hit⟩ := st
    obtain ⟨hq, hx⟩ := hg
    obtain ⟨its, rv, p, hz⟩ := I.tuple hq
    obtain ⟨f0, f1, f2, f3, f4, f5⟩ := hf it (by simp)
    have hl := rv.length
    exact wpAny_pyNext_enumT_end (I.ok.hd hc) he hit p (by simp; omega) fun h' eb => ⟨rfl, I.turned (t' := s.toks) (fun b o hb q => eb b o hb q) f0 f1 f3 f4 f5⟩
  self := fun A i s Q E st h => let ⟨⟨_, he⟩, _⟩ := st; wpAny_pyIter_enum he h
def iEnumT (K : PySem.W.Frag) (ta : TA) : TI := fun σ H R => ta σ H fun vs H1 => ∃ a xs, vs = [.ref a] ∧ SqT K H1 a xs ∧ R (Iet K a xs) H1
theorem pi_enumT {X : Cx} {e : Expr} {ta : TA} {p pos tpos : Pos} {elts : List Expr} {kk : Nat} (hg : Gl X "enumerate") (hm : X.mg "enumerate" = none) (ha : PA X [e] ta)
    (hs : starEach [e] X.env = [(false, eval e X.env)] := by rfl) : PI X (.Tuple elts kk tpos) (.Call (.Name "enumerate" p) [e] [] pos) (iEnumT X.K ta) := by
  refine ⟨fun pins s σ H R I h => ?_⟩
  refine Call_ (ld_blt I hg hm boot_enumerate (PyProof.Rows.callWith_type1 (thn (ha.run pos pins s σ H _ I h) fun us s1 ⟨vs, H1, I1, r1, q1⟩ => ?_) hs rfl))
  obtain ⟨a, xs, ex, hq, q⟩ := q1
  subst ex
  cases r1 with
  | cons r rr =>
    cases rr
    cases r
    obtain ⟨its, rv, p', hz⟩ := I1.tuple hq
    refine call_enumT p' fun h' he hit hk => wpAny_pyIter_enum he ?_
    have hal : a < s1.heap.objs.size := p'.lt
    have I2 : Inv X pins σ H1 { s1 with heap := h' } := I1.kept (t' := s1.toks) hk
    refine ⟨s1.heap.objs.size + 1, [s1.heap.objs.size + 1, s1.heap.objs.size], _, _, H1, rfl, I2,
      turn_enumT a (s1.heap.objs.size + 1) s1.heap.objs.size xs (Nat.succ_ne_self _) (Nat.ne_of_lt (Nat.lt_succ_of_lt hal)) (Nat.ne_of_lt hal), ⟨⟨.none, he⟩, hit⟩, fun b hb => ?_, q⟩
    have hle : s1.heap.objs.size ≤ b := by
      have e' : b = s1.heap.objs.size + 1 ∨ b = s1.heap.objs.size := by simpa using hb
      rcases e' with z | z
      · rw [z]
        exact Nat.le_add_right _ _
      · rw [z]
        exact Nat.le_refl _
    exact I1.fpOk hle (I1.hok.fresh hle)
end Wa
set_option maxHeartbeats 4000000
/-! More rules that the kit lacks: tuple.index of ints, dict(tuple of pairs), set(list of ints), repr of data. -/
namespace Wa
open PySem PySem.Spec PyProof.Rows L2
section
variable {X : Cx}
theorem ints_are {ns : List Int} : ∀ {its : List Value}, Vals (ns.map V.int) its → IntsAre its ns := by
  induction ns with
  | nil =>
    intro its r
    cases r
    exact .nil
  | cons n ns ih =>
    intro its r
    cases r with
    | cons a b =>
      obtain ⟨t, rfl⟩ := a
      exact .cons n t (ih b)
/-- t.index(k) of a tuple of ints, k among them -/
def rTIx (K : PySem.W.Frag) : V → List V → Hp → VK → Prop := fun x xs H Q => ∃ (p : Addr) (ns : List Int) (k : Int), x = .ref p ∧ xs = [.int k] ∧ SqT K H p (ns.map V.int) ∧ k ∈ ns ∧ Q (.int (ns.idxOf k : Nat)) H
theorem mt_tixI : MtR X "tuple.index" (rTIx X.K) := by
  intro pins s σ H x xs v us Q I rx rs h
  obtain ⟨p, ns, k, rfl, rfl, hq, hk, q⟩ := h
  cases rx
  obtain ⟨u, rfl, t, rfl⟩ := vals1 rs
  obtain ⟨its, r, pl, hz⟩ := I.tuple hq
  exact PySem.SeqAt.tuple_index_ints (vs := its) pl (ints_are r) hk ⟨.int _, H, I.tok _, ⟨_, rfl⟩, q⟩

/-- dict(t) of a tuple of pairs -/
theorem call_dictT (hcalm : X.calm = true) : CallR X (.type "dict") (fun xs H Q => ∃ (a : Addr) (o : Obj) (ps : List Addr) (kvs : List (Key × V)), xs = [.ref a] ∧ H a = some (.frz o (.tup (ps.map V.ref))) ∧ o.dict = none ∧
    Paired (fun p kv => SqT X.K H p [kV kv.1, kv.2]) ps kvs ∧ ∀ p, H p = none → Q (.ref p) (upd H p (.dK (mergeK [] kvs)))) := by
  intro pins s σ H xs us Q I r q
  obtain ⟨a, o0, ps, kvs, ex, hq, hdn, hp, q⟩ := q
  subst ex
  obtain ⟨u, eu, rx⟩ := vals1 r
  subst eu
  cases rx
  obtain ⟨ho0, hz, its, rv, pl⟩ := (show ObjOk X.prog X.w H s.heap a (.frz o0 (.tup (ps.map V.ref))) from I.hok a _ hq)
  have ei := refs_at rv
  subst ei
  rw [List.length_map] at hz
  obtain ⟨prs, rel, hl, hpr⟩ := pairs_of I hp
  obtain ⟨o, ho, hc, n, hd⟩ := id pl
  have eo : o = o0 := by
    rw [ho] at ho0
    exact Option.some.inj ho0
  subst eo
  -- the pairs, their keys as they stand
  have hks : ∃ us : List Value, us.length = prs.length ∧ ∀ (j : Nat) (q : Key × Value), prs[j]? = some q → ∃ (b : Addr) (u : Value), ps[j]? = some b ∧ us[j]? = some u ∧ IsTup s.heap b #[u, q.2] ∧ keyIs q.1 u = true := by
    have key : ∀ (m : Nat), m ≤ prs.length → ∃ us : List Value, us.length = m ∧ ∀ (j : Nat) (q : Key × Value), j < m → prs[j]? = some q → ∃ (b : Addr) (u : Value), ps[j]? = some b ∧ us[j]? = some u ∧ IsTup s.heap b #[u, q.2] ∧ keyIs q.1 u = true := by
      intro m
      induction m with
      | zero => exact fun _ => ⟨[], rfl, fun j q hj => absurd hj (Nat.not_lt_zero j)⟩
      | succ m ih =>
        intro hm
        obtain ⟨us, e1, e2⟩ := ih (by omega)
        obtain ⟨b, u, f1, f2, f3⟩ := hpr m prs[m] (List.getElem?_eq_getElem (by omega))
        refine ⟨us ++ [u], by rw [List.length_append, e1]; rfl, fun j q hj hq => ?_⟩
        by_cases h : j < m
        · obtain ⟨b', u', g1, g2, g3⟩ := e2 j q h hq
          exact ⟨b', u', g1, by rw [List.getElem?_append_left (by omega)]; exact g2, g3⟩
        · have ej : j = m := by omega
          subst ej
          rw [List.getElem?_eq_getElem (by omega)] at hq
          cases hq
          exact ⟨b, u, f1, by rw [← e1]; simp, f2, f3⟩
    obtain ⟨us, e1, e2⟩ := key prs.length (Nat.le_refl _)
    exact ⟨us, e1, fun j q hq => e2 j q (List.getElem?_eq_some_iff.mp hq).1 hq⟩
  obtain ⟨us, eus, hus⟩ := hks
  have hz2 : (us.zip (prs.map (·.2))).length = prs.length := by rw [List.length_zip, List.length_map, eus, Nat.min_self]
  have hat : ∀ (j : Nat) (k v : Value), (us.zip (prs.map (·.2)))[j]? = some (k, v) → us[j]? = some k ∧ ∃ q, prs[j]? = some q ∧ q.2 = v := fun j k v h => by
    obtain ⟨h1, h2⟩ := List.getElem?_zip_eq_some.mp h
    refine ⟨h1, ?_⟩
    rw [List.getElem?_map] at h2
    obtain ⟨q, e1, e2⟩ := Option.map_eq_some_iff.mp h2
    exact ⟨q, e1, e2⟩
  refine PySem.call_dict_pairs (knd := mixKind X.prog X.w) (kvs := prs) (PairArg.tuple a (ps.map Value.ref).toArray (fun j => ps.getD j 0) (us.zip (prs.map (·.2)))) (I.ok.hd hcalm) ⟨⟨o, n, ho, hc, hdn, hd⟩, by simp [hz2, hl], fun j k v h => ?_⟩ ⟨hz2.symm, fun i key v hr => ?_⟩ (by rw [hz2, hl]; exact hz) fun h' tk hd' hk => ?_
  · obtain ⟨h1, q, e1, e2⟩ := hat j k v h
    obtain ⟨b, u, g1, g2, g3, g4⟩ := hus j q e1
    rw [h1] at g2
    cases g2
    have eb : ps.getD j 0 = b := by rw [List.getD_eq_getElem?_getD, g1] <;> rfl
    show (ps.map Value.ref).toArray[j]? = some (.ref (ps.getD j 0)) ∧ PairAt s.heap (ps.getD j 0) k v
    rw [eb]
    refine ⟨by simp [g1], ?_⟩
    rw [← e2]
    exact .inl g3
  · obtain ⟨h1, q, e1, e2⟩ := hat i key v hr
    obtain ⟨b, u, g1, g2, g3, g4⟩ := hus i q e1
    rw [h1] at g2
    cases g2
    refine ⟨q.1, ?_, g4⟩
    rw [e1, ← e2]
  · have hm : (s.heap.objs.size == sysModules) = false := beq_eq_false_iff_ne.mpr (Nat.ne_of_gt I.big)
    have hlen : (mergeK [] kvs).length ≤ sizeLine := by
      refine Nat.le_trans (length_mergeK kvs []) ?_
      rw [List.length_nil, Nat.zero_add, rel.length, hl]
      exact hz
    have k : ∀ b o, s.heap.get? b = some o → h'.get? b = some o := fun b o e => hk b o (by simp) e
    exact ⟨.ref s.heap.objs.size, upd H s.heap.objs.size (.dK (mergeK [] kvs)), I.laid (t' := tk) k (Nat.le_refl _) (show ObjOk X.prog X.w _ _ _ (.dK (mergeK [] kvs)) from ⟨hlen, hm, merged [] prs, KV.merge rel .nil, hd'⟩), rfl, q _ (I.hok.fresh (Nat.le_refl _))⟩

/-- repr(x) of data, no guard being up -/
def rRepr (K : PySem.W.Frag) : List V → Hp → VK → Prop := fun xs H Q => ∃ (x : V) (d : PyData), xs = [x] ∧ Dp K H x d ∧ isDisplay d = true ∧ d.showable = true ∧ d.hasDict = false ∧ d.depth ≤ 60 ∧ d.shown.length ≤ sizeLine ∧ Q (.str d.shown) H
theorem cr_repr (hG : X.A.guards = some []) (hu : X.A.units + 64 < cLine) : CallR X (.builtin "repr") (rRepr X.K) := by
  intro pins s σ H xs us Q I r h
  obtain ⟨x, d, rfl, hd, hdis, hs, hnd, hdep, hsz, q⟩ := h
  obtain ⟨u, rfl, rx⟩ := vals1 r
  obtain ⟨as, rd⟩ := Dp.reads I d x u hd rx
  obtain ⟨a, rfl⟩ := isRef_of_reads rd hdis
  exact repr_of_reads' rd hs (PyData.noDict_hsm hnd) hG (by omega) (fun _ _ e => e) (fun h' u tk hk => ⟨.str _, H, I.kept hk, ⟨_, rfl⟩, q⟩) hsz
end
end Wa
set_option maxHeartbeats 4000000
/-! Rules that the kit lacks: set(list of ints) with its table, tuple(list) told with its object, defs that run under no guard. -/
namespace Wa
open PySem PySem.Spec PyProof.Rows L2
section
variable {P : Program} {w : World} {A : Around} {E : Value → Shared → Prop} {s : Shared}
theorem call_setL {l : Addr} {items : Array Value} (ns : List Int) {Q : Value → Shared → Prop} (hh : A.handled = none) (hl : s.heap.IsList l items) (hit : IntsAre items.toList ns) (hb : ns.length + 1 < scanBound)
    (h : ∀ (h' : Heap) (tk c : Nat), SetR w h' s.heap.objs.size (fun j => decide (j ∈ ns)) c → c ≤ ns.length → (∀ b o, s.heap.get? b = some o → h'.get? b = some o) → Q (.ref s.heap.objs.size) { s with heap := h', toks := tk }) :
    wpAny (model P w) A (call (.type "set") [.ref l]) Q E s := by
  have hisz : items.size = ns.length := by
    have q := IntsAre.length hit
    rw [Array.length_toList] at q
    exact q
  obtain ⟨c, tl, hmro⟩ := F.called_set.mro
  have hmade := F.called_set.made
  have hsub := F.called_set.sub
  refine wpAny_call (codeAny_of_tree ?_)
  show wpAny _ _ (callAny (.type "set") _) _ _ _
  refine wpAny_pure ⟨Code.quiet_builtin _ (by decide +kernel), codeAny_builtin F.entry_type_call ?_⟩
  rw [Around.under_plain (weight_type_call_type "set" [.ref l] []) rfl]
  have h1 := F.called_set.notType
  have h2 := F.called_set.canCreate
  have hct := F.typeCall_set_1 (.ref l)
  repeat (any_goals (first | assumption | wp_step))

  refine codeAny_mono (code_set_led1 (.ref l) (E := E) (Q₁ := fun obj s₁ => obj = .ref s.heap.objs.size ∧ s₁ = { s with heap := s.heap.push { cls := .type "set", dict := none, data := .set #[] 0 (.fresh 0 0 (!w.params.followText "set-order")) } }) ⟨rfl, rfl⟩) fun r s₁ hr => ?_
  cases r with
  | error e => exact hr
  | ok fl =>
    cases fl with
    | ret obj =>
      obtain ⟨rfl, rfl⟩ := hr
      have hS : (s.heap.push { cls := .type "set", dict := none, data := .set #[] 0 (.fresh 0 0 (!w.params.followText "set-order")) }).get? s.heap.objs.size = some { cls := .type "set", dict := none, data := .set #[] 0 (.fresh 0 0 (!w.params.followText "set-order")) } := Heap.get?_push_size _ rfl
      have hT : Shared.TypeIs { s with heap := s.heap.push { cls := .type "set", dict := none, data := .set #[] 0 (.fresh 0 0 (!w.params.followText "set-order")) } } (.ref s.heap.objs.size) "set" := ⟨_, hS, rfl⟩
      have hli := F.called_set.init.lookup
      have hbi := F.called_set.init.bind (.ref s.heap.objs.size)
      repeat (any_goals (first | assumption | wp_step))

      refine codeAny_mono (codeAny_call_builtin (R := wants (fun r s₂ => r = .none ∧ ∃ h' tk c, s₂ = { s with heap := h', toks := tk } ∧ SetR w h' s.heap.objs.size (fun j => decide (j ∈ ns)) c ∧ c ≤ ns.length ∧
          (∀ b o, s.heap.get? b = some o → h'.get? b = some o)) E) F.called_set.init.plain F.entry_set_init (check_set_init_1 hT ?_)) fun r₂ s₂ hr₂ => ?_
      · obtain ⟨ol, hol, hcl, nl, hdl⟩ := hl
        obtain ⟨ocls, odict, odata, oslots⟩ := ol
        simp only at hcl hdl
        subst hcl; subst hdl
        have hol' : (s.heap.push { cls := .type "set", dict := none, data := .set #[] 0 (.fresh 0 0 (!w.params.followText "set-order")) }).get? l = some { cls := .type "list", dict := odict, data := .seq items nl, slots := oslots } := Heap.get?_push_of_some _ hol
        have hsls := F.sub_list_set
        have hslf := F.sub_list_frozenset
        have hne : (Value.type "list" == Value.type "dict") = false := by decide
        have hl1 : (s.heap.push { cls := .type "set", dict := none, data := .set #[] 0 (.fresh 0 0 (!w.params.followText "set-order")) }).IsList l items := ⟨_, hol', rfl, nl, rfl⟩
        unfold Builtin.«set.__init__» noKeywords Builtin.Frozenset.updateFrom
        generalize hPI : pyIter = PI
        wp_walk
        subst hPI

        refine wpAny_pyIter_list hl1 ?_
        refine wpAny_bind (wpAny_runValue ?_)
        have hlS : l < s.heap.objs.size := Heap.lt_size hol
        have hh3 : A.in1.in1.in1.handled = none := by simp [hh]
        have hz1 : (s.heap.push { cls := .type "set", dict := none, data := .set #[] 0 (.fresh 0 0 (!w.params.followText "set-order")) }).objs.size = s.heap.objs.size + 1 := Heap.size_push ..
        have hneI : l ≠ (s.heap.push { cls := .type "set", dict := none, data := .set #[] 0 (.fresh 0 0 (!w.params.followText "set-order")) }).objs.size := by
          rw [Heap.size_push]; exact Nat.ne_of_lt (Nat.lt_succ_of_lt hlS)
        have hSf : s.heap.objs.size ∉ [(s.heap.push { cls := .type "set", dict := none, data := .set #[] 0 (.fresh 0 0 (!w.params.followText "set-order")) }).objs.size, l] := by
          rw [Heap.size_push]; simp only [List.mem_cons, List.mem_singleton, List.not_mem_nil, or_false, not_or]
          exact ⟨Nat.ne_of_lt (Nat.lt_succ_self _), Nat.ne_of_gt hlS⟩
        have hval : ∀ (i : Nat) (v : Value), items[i]? = some v → ∃ k t, ns[i]? = some k ∧ v = .int k t := fun i v hv => by
          have hi : i < ns.length := by rw [← hisz]; exact (Array.getElem?_eq_some_iff.mp hv).1
          obtain ⟨t, e⟩ := PyProof.Rows.IntsAre.int_at hit i v (by rw [Array.getElem?_toList]; exact hv)
          refine ⟨ns[i], t, List.getElem?_eq_getElem hi, ?_⟩
          rw [e, List.getD_eq_getElem?_getD, List.getElem?_eq_getElem hi] <;> rfl
        refine set_update_ints ((Walks.list hh3 _ l hneI items).toS) s.heap.objs.size
          hSf ns hisz hb hval (items.size - 0) 0 _ (by omega) (Nat.zero_le _)
          ⟨⟨_, Heap.get?_push_size _ rfl, rfl, rfl⟩, (hl1.push _)⟩ ?hS0 ?hR
        case hS0 =>
          have hget : ((s.heap.push { cls := .type "set", dict := none, data := .set #[] 0 (.fresh 0 0 (!w.params.followText "set-order")) }).push { cls := .type "list_iterator", data := .fields #[.ref l, .int 0 0] }).get? s.heap.objs.size
              = some { cls := .type "set", dict := none, data := .set #[] 0 (.fresh 0 0 (!w.params.followText "set-order")) } := Heap.get?_push_of_some _ hS
          exact ⟨0, Nat.le_refl 0, setR_new_at hget⟩
        case hR =>
          intro s' c' hm hc' hS'
          obtain ⟨h', g2, d', tk', os'⟩ := s'
          have eg : g2 = s.gens := hm.gens
          have ed : d' = s.drawn := hm.drawn
          have eo : os' = s.os := hm.os
          subst eg; subst ed; subst eo
          show wpAny _ _ _ _ _ _
          refine wpAny_pure ?_
          show wpAny _ _ (ret Value.none) _ _ _
          rw [hisz] at hc'
          refine wpAny_pure ⟨rfl, h', tk', c', rfl, hS', hc', fun b o e => ?_⟩
          have hb0 : b < s.heap.objs.size := Heap.lt_size e
          have hb1 : b ≠ s.heap.objs.size := Nat.ne_of_lt hb0
          have hb2 : b ≠ (s.heap.push { cls := .type "set", dict := none, data := .set #[] 0 (.fresh 0 0 (!w.params.followText "set-order")) }).objs.size := by
            rw [Heap.size_push]; exact Nat.ne_of_lt (Nat.lt_succ_of_lt hb0)
          exact hm.heap b o (by simp only [List.mem_cons, List.mem_singleton, List.not_mem_nil, or_false, not_or]; exact ⟨hb1, hb2⟩) (Heap.get?_push_of_some _ (Heap.get?_push_of_some _ e))

      · cases r₂ with
        | error e => exact hr₂
        | ok fl₂ =>
          cases fl₂ with
          | ret r =>
            obtain ⟨rfl, h', tk, c', rfl, hS', hc', hk'⟩ := hr₂
            repeat (any_goals (first | assumption | wp_step))
            exact h _ _ _ hS' hc' hk'
          | _ => exact hr₂.elim
    | _ => exact hr.elim

end
section
variable {X : Cx}
/-- set(xs) of a list of ints -/
def rSetL' (K : PySem.W.Frag) (w : World) : List V → Hp → VK → Prop := fun xs H Q => ∃ (l : Addr) (ns : List Int), xs = [.ref l] ∧ SqL K H l (ns.map V.int) ∧ ns.length ≤ 60 ∧
  ∀ (p : Addr) (c : Nat), H p = none → c ≤ ns.length → Q (.ref p) (upd H p (SetO w p (fun j => decide (j ∈ ns)) c))
theorem cr_setL (hc : X.calm = true) : CallR X (.type "set") (rSetL' X.K X.w) := by
  intro pins s σ H xs us Q I r h
  obtain ⟨l, ns, rfl, hq, hl, q⟩ := h
  obtain ⟨u, rfl, rx⟩ := vals1 r
  cases rx
  obtain ⟨its, rv, pl, hz⟩ := I.list hq
  refine call_setL (P := X.prog) (w := X.w) ns (I.ok.hd hc) pl.isList (by simpa using ints_are rv) (by unfold scanBound; omega) fun h' tk c R hcl k => ?_
  exact ⟨.ref s.heap.objs.size, upd H s.heap.objs.size (SetO X.w s.heap.objs.size (fun j => decide (j ∈ ns)) c), I.laid (t' := tk) k (Nat.le_refl _) (setO_new R), rfl, q _ c (I.hok.fresh (Nat.le_refl _)) hcl⟩
/-- tuple(xs) of a list, its object told -/
def rTupF (K : PySem.W.Frag) : List V → Hp → VK → Prop := fun xs H Q => ∃ p ys, xs = [.ref p] ∧ SqL K H p ys ∧ ∀ (l : Addr) (o : Obj), H l = none → o.dict = none → Q (.ref l) (upd H l (.frz o (.tup ys)))
theorem call_tupF : CallR X (.type "tuple") (rTupF X.K) := by
  intro pins s σ H xs us Q I r h
  obtain ⟨p, ys, rfl, hq, q⟩ := h
  obtain ⟨u, rfl, rx⟩ := vals1 r
  cases rx
  obtain ⟨its, r', pl, hz⟩ := I.list hq
  have hlen := r'.length
  refine call_tuple_list pl.isList (fun h' kp => ?_) (by simp only [List.size_toArray] <;> omega)
  have I1 : Inv X pins σ H { s with heap := h' } := I.kept (t' := s.toks) kp
  have I2 : Inv X pins σ (upd H h'.objs.size (.frz { cls := .type "tuple", data := .seq its.toArray } (.tup ys))) { s with heap := h'.push { cls := .type "tuple", data := .seq its.toArray } } :=
    I1.laid (t' := s.toks) (fun b o e => Heap.get?_push_of_some _ e) (Nat.le_refl _) ⟨Heap.get?_push_size _ rfl, hz, its, r', IsTup.new _ _⟩
  exact ⟨.ref h'.objs.size, _, I2, rfl, q _ _ (I1.hok.fresh (Nat.le_refl _)) rfl⟩
end

/-! ### defs that run while nothing is being shown -/
structure FnG (P : Program) (w : World) (K : PySem.W.Frag) (mg : Str → Option Value) (base : Heap) (k : Nat) (f : Addr) (fd : FuncData) (ps : List Str) (sp : Sp) : Prop where
  len : ∀ vs H Q E, sp vs H Q E → vs.length = ps.length
  run : ∀ (A : Around) (outer : List Env) (s : Shared) (H : Hp) (args : Args) (us : List Value) (vs : List V) (Q : VK) (E : XK), A.guards = some [] → Room k A → Env0 P w K mg base A outer s H →
    BindsTo s fd args (ps.zip us) → Vals vs us → sp vs H Q E → codeAny (model P w) A (.call (.ref f) args) (CR CX0 outer P w H s Q E) s
section
variable {X : Cx} {k : Nat} {f : Addr} {fd : FuncData} {ps : List Str} {sp : Sp} {dvs : List V} {ds : List Value} {x : Str} {p pos : Pos} {e : Expr} {es : List Expr} {t : TA}
theorem run_fg {pins : List (Addr × Obj)} {σ : L2.St} {H : Hp} {s : Shared} {Q : VK} {us : List Value} {vs : List V} (F : FnG X.prog X.w X.K X.mg X.base k f fd ps sp) (hG : X.A.guards = some []) (hr : Room k X.A) (hb : Binds X.K fd ps ds) (hd : Vals dvs ds)
    (I : Inv X pins σ H s) (r : Vals vs us) (h : sp (vs ++ dvs) H Q E0) : wpAny (model X.prog X.w) X.A (call (.ref f) us) (EP X pins σ Q) X.xe s := by
  have r2 := r.append hd
  have hl : (us ++ ds).length = ps.length := by
    rw [← r2.length]
    exact F.len _ _ _ _ h
  refine wpAny_call (codeAny_mono (F.run X.A X.stack s H ⟨us, []⟩ _ _ Q E0 hG hr I.env0 (hb s us I.kIn hl) r2 h) fun r s' hq => ?_)
  cases r with
  | error e => exact False.elim hq
  | ok fl =>
    cases fl with
    | ret u => exact I.after hq
    | next => exact False.elim hq
    | brk => exact False.elim hq
    | cont => exact False.elim hq
theorem pe_callG (F : FnG X.prog X.w X.K X.mg X.base k f fd ps sp) (hG : X.A.guards = some []) (hr : Room k X.A) (hg : Gl X x) (hm : X.mg x = some (.ref f)) (hk : PySem.W.keepIn X.K (.ref f) = true) (hb : Binds X.K fd ps ds) (hd : Vals dvs ds)
    (ha : PA X (e :: es) t) (hdb : (x == ("__debug__" : Str)) = false := by decide) (he : starEach (e :: es) X.env = (false, eval e X.env) :: starEach es X.env := by rfl)
    (hpl : (backTo pos (starEach es X.env)).any (·.1) = false := by rfl) : PE X (.Call (.Name x p) (e :: es) [] pos) (tCall sp dvs E0 t) := by
  refine ⟨fun pins s σ H Q I h => ?_⟩
  refine wpAny_Call_Name_kw (ld_glob I hg hm ?_ hdb)
  refine PySem.W.callWith_K (h₀ := X.base) I.ok.mod.kin hk (thn (ha.run pos pins s σ H _ I h) fun us s1 ⟨vs, H1, I1, r, q⟩ => ⟨I1.kIn, ?_⟩) he hpl
  exact run_fg F hG hr hb hd I1 r q
end
section
variable {P : Program} {w : World} {K : PySem.W.Frag} {mg : Str → Option Value} {base : Heap}
/-- the rule of L2.Fun.ok, the guards told -/
theorem fun_okG {x qual : Str} {st : Stmt} {f : Addr} {fd : FuncData} {N ps : List Str} {k : Nat} {sp : Sp} (F : Fun K x qual st f fd) (S : FnScope N ps (defScope st)) (len : ∀ vs H Q E, sp vs H Q E → vs.length = ps.length)
    (hbody : ∀ (cdv : Value) (A : Around) (outer : List Env) (s : Shared) (H : Hp) (vs : List V) (Q : VK) (E : XK), A.guards = some [] → Room k (A.deeper (envOfC qual (defScope st) s.heap.objs.size f cdv)) → sp vs H Q E →
      ∃ t, PSs (cxOf CX0 P w K mg base N qual (defScope st) f cdv A outer s H E).nox (defBody st) t ∧ t { nx := fun _ H' => Q .non H', rt := Q } (start N vs) H) : FnG P w K mg base (k + 1) f fd ps sp := by
  obtain ⟨oc, od, kV, doc, pm, an, cdv, ct, osl, rfl, lk, hcd⟩ := F.ex
  refine ⟨len, fun A outer s H args us vs Q E hG hr e0 hb r hsp => ?_⟩
  have hl := len _ _ _ _ hsp
  have KX : K.In s.heap := e0.mod.kin.keeps fun b o e => (e0.bs b o e).1
  have lim : s.heap.NoLimit := e0.mod.nolimit.keeps fun b o e => (e0.bs b o e).1
  have hkind : ∀ y ∈ ps.zip us, (defScope st).names.lookup y.1 = some .local ∨ ((defScope st).names.lookup y.1 = some .cell ∧ ((cellsFrom (s.heap.objs.size + 1) (defScope st).names []).lookup y.1).isSome = true) := fun ⟨n, v⟩ hy => by
    rcases S.par n (List.of_mem_zip hy).1 with q | q
    · exact .inl q
    · exact .inr ⟨q, PySem.W.cellsFrom_some _ _ _ (.inl q)⟩
  refine codeAny_call_function hr.depth (KX _ _ lk) rfl S.co S.gen rfl (PySem.W.codeRec_of KX hcd) (hb _ _ _ _ ?_)
  refine wpAny_newFunctionEnv_cells S.kind hkind fun env he s1 x => ?_
  subst he
  refine ⟨lim.keeps x.toInCall.keep, codeAny_func ?_⟩
  obtain ⟨t, ht, hq⟩ := hbody cdv A outer s H vs Q E hG (hr.deeper _) hsp
  have I := inv_start (CX := CX0) (P := P) (w := w) (K := K) (mg := mg) (base := base) (N := N) (qual := qual) (f := f) (cd := cdv) (outer := outer) (E := E) S hr.hd e0 hl r x
  refine wpAny_mono (ht.nox.run [] s1 (start N vs) H _ I hq) (fun fl s' hs => ?_) fun e s' hs => hs
  cases fl with
  | ret u =>
    obtain ⟨v, σ', H', J, rv, q⟩ := hs
    exact ⟨v, H', J.os, J.bare, J.base, J.hok, rv, q⟩
  | next =>
    obtain ⟨σ', H', J, q⟩ := hs
    exact ⟨V.non, H', J.os, J.bare, J.base, J.hok, rfl, q⟩
  | brk =>
    obtain ⟨_, _, _, q⟩ := hs
    exact False.elim q
  | cont =>
    obtain ⟨_, _, _, q⟩ := hs
    exact False.elim q
end
end Wa
set_option maxHeartbeats 4000000
/-! Operators, built-ins and displays by data. -/
namespace Wa
open PySem PySem.Spec PyProof.Rows L2

/-! ### two more rules: a tuple display told with its object, t.index(k) of such a tuple -/
section
variable {X : Cx} {o e : Expr} {es : List Expr} {to te : TE} {t : TA} {apos cpos pos : Pos}
def tTupF (t : TA) : TE := fun σ H Q => t σ H fun xs H1 => xs.length ≤ sizeLine ∧ ∀ (p : Addr) (o : Obj), H1 p = none → o.dict = none → Q (.ref p) (upd H1 p (.frz o (.tup xs)))
theorem pe_tupF {x1} (h : PA X es t) : PE X (.Tuple es x1 pos) (tTupF t) := by
  refine ⟨fun pins s σ H Q I hq => ?_⟩
  refine wpAny_Tuple_spliced (thn (h.run pos pins s σ H _ I hq) fun us s1 ⟨xs, H1, I1, r, z, q⟩ => ⟨by rw [← r.length]; exact z, ?_⟩)
  have hf : H1 s1.heap.objs.size = none := I1.hok.fresh (Nat.le_refl _)
  refine ⟨.ref s1.heap.objs.size, upd H1 s1.heap.objs.size (.frz { cls := .type "tuple", data := .seq us.toArray } (.tup xs)), I1.laid (t' := s1.toks) (fun b u e => Heap.get?_push_of_some _ e) (Nat.le_refl _) ?_, rfl, q _ _ hf rfl⟩
  exact ⟨Heap.get?_push_size _ rfl, z, us, r, ⟨_, Heap.get?_push_size _ rfl, rfl, _, rfl⟩⟩
def tTix (K : PySem.W.Frag) (to te : TE) : TE := fun σ H Q => to σ H fun x H1 => (∃ p o xs, x = .ref p ∧ H1 p = some (.frz o (.tup xs)) ∧ o.dict = none) ∧ te σ H1 fun y H2 => rTIx K x [y] H2 Q
theorem pe_tix (ho : PE X o to) (he : PE X e te) (hbase : attributeBase o "index" X.env (eval o X.env) = eval o X.env := by rfl)
    (hfew : ((backTo cpos (starEach [e] X.env)).all (fun x => !x.1) && (backToKw cpos (keywordEach [] X.env)).all (fun x => x.1.isSome)
      && decide ([e].length + ([] : List Keyword).length + (if ([] : List Keyword).isEmpty then 0 else 1) < 30)) = true := by rfl)
    (hline : (apos.endLine == cpos.line) = true := by rfl) (hs : starEach [e] X.env = (false, eval e X.env) :: starEach [] X.env := by rfl)
    (hplain : (backTo cpos (starEach [] X.env)).any (·.1) = false := by rfl) :
    PE X (.Call (.Attribute o "index" apos) [e] [] cpos) (tTix X.K to te) := by
  refine ⟨fun pins s σ H Q I h => ?_⟩
  refine wpAny_Call_method_late hbase hfew hline rfl (thn (ho.run pins s σ H _ I h) fun v s1 ⟨x, H1, I1, r1, ty, q1⟩ => ?_)
  obtain ⟨p, ob, xs, rfl, hp, hd⟩ := ty
  cases r1
  obtain ⟨e1, z, its, rv, oo, e2, hc, n, hdt⟩ := (show ObjOk X.prog X.w H1 s1.heap p (.frz ob (.tup xs)) from I1.hok p _ hp)
  have eo : oo = ob := by
    rw [e1] at e2
    exact (Option.some.inj e2).symm
  subst eo
  refine ⟨"tuple", "tuple.index", PySem.F.plainAttrs_tuple, PySem.F.slot_tuple_index, PySem.F.type_tuple_index, ⟨oo, e1, hc⟩, fun a ea => ?_, ?_⟩
  · cases ea
    exact ⟨oo, e1, hd⟩
  · have hA := (pa_cons (hs := hs) he (pa_nil (X := X))).run cpos pins s1 σ H1 (fun ys H2 => ∃ y, ys = [y] ∧ rTIx X.K (.ref p) [y] H2 Q) I1 (by
      show te σ H1 fun x H1' => ∃ y, [x] = [y] ∧ rTIx X.K (.ref p) [y] H1' Q
      have h2 : te σ H1 fun y H2 => rTIx X.K (.ref p) [y] H2 Q := q1
      have e : (fun x H1' => ∃ y, [x] = [y] ∧ rTIx X.K (.ref p) [y] H1' Q) = fun y H2 => rTIx X.K (.ref p) [y] H2 Q := by
        funext x H1'
        apply propext
        constructor
        · rintro ⟨y, e, h⟩
          cases e
          exact h
        · intro h
          exact ⟨x, rfl, h⟩
      rw [e]
      exact h2)
    rw [hs] at hA ⊢
    refine Calls.callWith_builtin (by show (false || (backTo cpos (starEach [] X.env)).any (·.1)) = false; rw [hplain] <;> rfl) (Calls.evalArgs_plain ?_)
    refine thn hA fun us s2 ⟨vs, H2, I2, r2, y, ey, q2⟩ => ?_
    subst ey
    exact mt_tixI pins s2 σ H2 (.ref p) _ (.ref p) us Q I2 rfl r2 q2
end

end Wa
set_option maxHeartbeats 4000000
/-! Operators, built-ins and displays by data. -/
namespace Wa
open PySem PySem.Spec PyProof.Rows L2

/-! ### data as the kit's nested data -/
mutual
def D.py : D → PyData
  | .non => .none
  | .bl b => .bool b
  | .int i => .int i
  | .str s => .str s
  | .tup xs => .tuple (pyL xs)
  | .tuf xs => .tuple (pyL xs)
  | .lst xs => .list (pyL xs)
  | .dic _ => .none
def pyL : List D → List PyData
  | [] => []
  | x :: xs => x.py :: pyL xs
end
mutual
def D.nd : D → Bool
  | .dic _ => false
  | .tup xs => ndL xs
  | .tuf xs => ndL xs
  | .lst xs => ndL xs
  | _ => true
def ndL : List D → Bool
  | [] => true
  | x :: xs => x.nd && ndL xs
end
theorem pyL_map {α : Type} (E : α → D) : ∀ xs : List α, pyL (xs.map E) = xs.map fun x => (E x).py
  | [] => rfl
  | x :: xs => by
    rw [List.map_cons, pyL, pyL_map E xs] <;> rfl
theorem ndL_map {α : Type} {E : α → D} (h : ∀ a, (E a).nd = true) : ∀ xs : List α, ndL (xs.map E) = true
  | [] => rfl
  | x :: xs => by
    rw [List.map_cons, ndL, h x, ndL_map h xs]
    rfl
section
variable {G H : Hp} {K : PySem.W.Frag}
theorem Rp.sqT {a : Addr} {vs : List V} (e : Ex G H) (h : Rd G a (.tup vs)) : SqT K H a vs := .inl (e.rd h)
mutual
theorem Rp.dpx (e : Ex G H) : ∀ (d : D) (v : V), Rp G v d → d.nd = true → Dp K H v d.py
  | .non, _, h, _ => by
    cases h
    rw [D.py]
    exact .non
  | .bl b, _, h, _ => by
    cases h
    rw [D.py]
    exact .bl b
  | .int i, _, h, _ => by
    cases h
    rw [D.py]
    exact .int i
  | .str x, _, h, _ => by
    cases h
    rw [D.py]
    exact .str x
  | .tup ds, _, h, n => by
    cases h with
    | tup h a =>
      rw [D.py]
      rw [D.nd] at n
      exact .tup (.inl (e.rd h)) (RpA.dpx e ds _ a n)
  | .tuf ds, _, h, n => by
    cases h with
    | tuf h hd a =>
      rw [D.py]
      rw [D.nd] at n
      exact .tup (.inl (e.rd (.inr ⟨_, h⟩))) (RpA.dpx e ds _ a n)
  | .lst ds, _, h, n => by
    cases h with
    | lst h a =>
      rw [D.py]
      rw [D.nd] at n
      exact .lst (.inl (e.rd (.inl h))) (RpA.dpx e ds _ a n)
  | .dic ds, _, _, n => by
    rw [D.nd] at n
    cases n
theorem RpA.dpx (e : Ex G H) : ∀ (ds : List D) (vs : List V), RpA G vs ds → ndL ds = true → DpAll K H vs (pyL ds)
  | [], _, h, _ => by
    cases h
    rw [pyL]
    exact .nil
  | d :: ds, _, h, n => by
    cases h with
    | cons a b =>
      rw [pyL]
      rw [ndL] at n
      have n2 := Bool.and_eq_true_iff.mp n
      exact .cons (Rp.dpx e d _ a n2.1) (RpA.dpx e ds _ b n2.2)
end
theorem Rp.dp (e : Ex G H) {v : V} {d : D} (h : Rp G v d) (n : d.nd = true) : Dp K H v d.py := Rp.dpx e d v h n
end
/-- an encoding whose == is = -/
structure EqOk {α : Type} [DecidableEq α] (E : α → D) (n : Nat) : Prop where
  nd : ∀ a, (E a).nd = true
  lay : ∀ a, (E a).py.canLay0 = true
  dep : ∀ a, (E a).py.depth ≤ n
  eqv : ∀ a b, PyData.eqv (E a).py (E b).py = decide (a = b)
theorem beq_dec {α : Type} [BEq α] [LawfulBEq α] [DecidableEq α] (a b : α) : (a == b) = decide (a = b) := by
  by_cases h : a = b
  · subst h
    simp
  · rw [decide_eq_false h]
    exact beq_eq_false_iff_ne.mpr h
theorem py_int (a : Int) : (D.int a).py = .int a := by rw [D.py]
theorem eqInt : EqOk D.int 0 := ⟨fun _ => by rw [D.nd] <;> nofun, fun a => by rw [py_int, PyData.canLay0], fun a => by rw [py_int, PyData.depth] <;> exact Nat.le_refl _, fun a b => by
  rw [py_int, py_int, PyData.eqv]
  exact beq_dec a b⟩
section
variable {α β : Type} [DecidableEq α] [DecidableEq β] {E : α → D} {F : β → D} {n m : Nat}
theorem EqOk.eqvL (h : EqOk E n) : ∀ xs ys : List α, PyData.eqvAll (xs.map fun x => (E x).py) (ys.map fun x => (E x).py) = decide (xs = ys)
  | [], [] => by
    rw [List.map_nil, PyData.eqvAll]
    rfl
  | [], y :: ys => by
    rw [List.map_nil, List.map_cons, PyData.eqvAll]
    rfl
  | x :: xs, [] => by
    rw [List.map_nil, List.map_cons, PyData.eqvAll]
    rfl
  | x :: xs, y :: ys => by
    rw [List.map_cons, List.map_cons, PyData.eqvAll, h.eqv, h.eqvL xs ys]
    by_cases e : x = y
    · subst e
      rw [decide_eq_true rfl, Bool.true_and]
      by_cases e2 : xs = ys
      · subst e2
        rw [decide_eq_true rfl, decide_eq_true rfl]
      · rw [decide_eq_false e2, decide_eq_false fun z => e2 (List.cons.inj z).2]
    · rw [decide_eq_false e, Bool.false_and, decide_eq_false fun z => e (List.cons.inj z).1]
theorem EqOk.layL (h : EqOk E n) : ∀ xs : List α, PyData.canLayAll0 (xs.map fun x => (E x).py) = true
  | [] => by rw [List.map_nil, PyData.canLayAll0]
  | x :: xs => by rw [List.map_cons, PyData.canLayAll0, h.lay, h.layL xs] <;> rfl
theorem EqOk.depL (h : EqOk E n) : ∀ xs : List α, PyData.depthAll (xs.map fun x => (E x).py) ≤ n
  | [] => by
    rw [List.map_nil, PyData.depthAll]
    exact Nat.zero_le _
  | x :: xs => by
    rw [List.map_cons, PyData.depthAll]
    exact Nat.max_le.mpr ⟨h.dep x, h.depL xs⟩
theorem EqOk.tup (h : EqOk E n) : EqOk (fun xs : List α => D.tup (xs.map E)) (n + 1) := by
  have e : ∀ xs : List α, (D.tup (xs.map E)).py = .tuple (xs.map fun x => (E x).py) := fun xs => by rw [D.py, pyL_map]
  refine ⟨fun xs => ?_, fun xs => ?_, fun xs => ?_, fun xs ys => ?_⟩
  · rw [D.nd]
    exact ndL_map h.nd xs
  · rw [e, PyData.canLay0]
    exact h.layL xs
  · rw [e, PyData.depth]
    exact Nat.succ_le_succ (h.depL xs)
  · rw [e, e, PyData.eqv]
    exact h.eqvL xs ys
theorem EqOk.tuf (h : EqOk E n) : EqOk (fun xs : List α => D.tuf (xs.map E)) (n + 1) := by
  have e : ∀ xs : List α, (D.tuf (xs.map E)).py = .tuple (xs.map fun x => (E x).py) := fun xs => by rw [D.py, pyL_map]
  refine ⟨fun xs => ?_, fun xs => ?_, fun xs => ?_, fun xs ys => ?_⟩
  · rw [D.nd]
    exact ndL_map h.nd xs
  · rw [e, PyData.canLay0]
    exact h.layL xs
  · rw [e, PyData.depth]
    exact Nat.succ_le_succ (h.depL xs)
  · rw [e, e, PyData.eqv]
    exact h.eqvL xs ys
theorem EqOk.lst (h : EqOk E n) : EqOk (fun xs : List α => D.lst (xs.map E)) (n + 1) := by
  have e : ∀ xs : List α, (D.lst (xs.map E)).py = .list (xs.map fun x => (E x).py) := fun xs => by rw [D.py, pyL_map]
  refine ⟨fun xs => ?_, fun xs => ?_, fun xs => ?_, fun xs ys => ?_⟩
  · rw [D.nd]
    exact ndL_map h.nd xs
  · rw [e, PyData.canLay0]
    exact h.layL xs
  · rw [e, PyData.depth]
    exact Nat.succ_le_succ (h.depL xs)
  · rw [e, e, PyData.eqv]
    exact h.eqvL xs ys
theorem EqOk.pair (h : EqOk E n) (k : EqOk F m) : EqOk (fun p : α × β => D.tup [E p.1, F p.2]) (max n m + 1) := by
  have e : ∀ p : α × β, (D.tup [E p.1, F p.2]).py = .tuple [(E p.1).py, (F p.2).py] := fun p => by rw [D.py, pyL, pyL, pyL]
  refine ⟨fun p => ?_, fun p => ?_, fun p => ?_, fun p q => ?_⟩
  · rw [D.nd, ndL, ndL, ndL, h.nd, k.nd]
    rfl
  · rw [e, PyData.canLay0, PyData.canLayAll0, PyData.canLayAll0, PyData.canLayAll0, h.lay, k.lay]
    rfl
  · rw [e, PyData.depth, PyData.depthAll, PyData.depthAll, PyData.depthAll]
    have a := h.dep p.1
    have b := k.dep p.2
    omega
  · rw [e, e, PyData.eqv, PyData.eqvAll, PyData.eqvAll, PyData.eqvAll, h.eqv, k.eqv, Bool.and_true]
    obtain ⟨a, b⟩ := p
    obtain ⟨c, d⟩ := q
    by_cases x : a = c
    · subst x
      rw [decide_eq_true rfl, Bool.true_and]
      by_cases y : b = d
      · subst y
        rw [decide_eq_true rfl, decide_eq_true rfl]
      · rw [decide_eq_false y, decide_eq_false fun z => y (Prod.mk.inj z).2]
    · rw [decide_eq_false x, Bool.false_and, decide_eq_false fun z => x (Prod.mk.inj z).1]
theorem EqOk.shaped (h : EqOk E n) (hn : n ≤ 60) (a : α) : SeqAt.shaped (E a).py = true := by
  unfold SeqAt.shaped
  rw [h.lay a, Bool.true_and]
  exact decide_eq_true (Nat.le_trans (h.dep a) (by omega))
end

end Wa
set_option maxHeartbeats 4000000
/-! Operators, built-ins and displays by data. -/
namespace Wa
open PySem PySem.Spec PyProof.Rows L2

section
variable {sl : List Sl} {te ta tb tc : TE} {tr : TA} {d e f : D} {xs ds : List D} {ks : List (Int × D)} {K : PySem.W.Frag}
/-- the items of a list or tuple -/
def D.seq : D → Option (List D)
  | .lst xs => some xs
  | d => d.items
theorem Rp.seq {G H : Hp} {v : V} (h : Rp G v d) (gh : Ex G H) (e : d.seq = some ds) : ∃ a vs, v = .ref a ∧ (SqL K H a vs ∨ SqT K H a vs) ∧ RpA G vs ds := by
  cases h with
  | lst h a =>
    cases e
    exact ⟨_, _, rfl, .inl (.inl (.inl (gh _ _ h))), a⟩
  | tup h a =>
    cases e
    exact ⟨_, _, rfl, .inr (.inl (gh.rd h)), a⟩
  | tuf h hd a =>
    cases e
    exact ⟨_, _, rfl, .inr (.inl (gh.rd (.inr ⟨_, h⟩))), a⟩
  | non => cases e
  | bl => cases e
  | int => cases e
  | str => cases e
  | dic => cases e
theorem inV_int {i : Int} : ∀ {ns : List Int}, inV (.int i) (ns.map V.int) = decide (i ∈ ns)
  | [] => rfl
  | n :: ns => by
    have ih := inV_int (i := i) (ns := ns)
    unfold inV at ih ⊢
    rw [List.map_cons, List.any_cons, ih]
    show ((n == i) || _) = _
    by_cases h : i = n
    · subst h
      simp
    · have h' : (n == i) = false := beq_eq_false_iff_ne.mpr (Ne.symm h)
      rw [h', Bool.false_or]
      by_cases h2 : i ∈ ns
      · rw [decide_eq_true h2, decide_eq_true (List.mem_cons_of_mem _ h2)]
      · rw [decide_eq_false h2, decide_eq_false fun z => (List.mem_cons.mp z).elim h h2]
theorem flat_ints' : ∀ ns : List Int, (ns.map V.int).all flatV = true
  | [] => rfl
  | n :: ns => by
    rw [List.map_cons, List.all_cons, flat_ints' ns] <;> rfl
theorem ov_in {i : Int} {ns : List Int} (h : e.seq = some (ns.map D.int)) : OV (rIn K false) (.int i) e (.bl (decide (i ∈ ns))) := fun G H x y gh rx ry Q q => by
  cases rx
  obtain ⟨a, vs, rfl, hs, ra⟩ := ry.seq (K := K) gh h
  have ev := ra.ints
  subst ev
  refine ⟨a, _, rfl, hs, rfl, flat_ints' ns, ?_⟩
  show Q (.bl (inV (.int i) (ns.map V.int))) H
  rw [inV_int]
  exact q G H _ (Step.id gh) (.bl _)
theorem ov_notIn {i : Int} {ns : List Int} (h : e.seq = some (ns.map D.int)) : OV (rIn K true) (.int i) e (.bl (!decide (i ∈ ns))) := fun G H x y gh rx ry Q q => by
  cases rx
  obtain ⟨a, vs, rfl, hs, ra⟩ := ry.seq (K := K) gh h
  have ev := ra.ints
  subst ev
  refine ⟨a, _, rfl, hs, rfl, flat_ints' ns, ?_⟩
  show Q (.bl (!inV (.int i) (ns.map V.int))) H
  rw [inV_int]
  exact q G H _ (Step.id gh) (.bl _)
theorem ov_eqD {α : Type} [DecidableEq α] {E : α → D} {n : Nat} (h : EqOk E n) (hn : n ≤ 60) {a b : α} (ea : d.py = (E a).py) (na : d.nd = true) (eb : e.py = (E b).py) (nb : e.nd = true) : OV (rEqD K) d e (.bl (decide (a = b))) := fun G H x y gh rx ry Q q => by
  refine ⟨_, _, rx.dp gh na, ry.dp gh nb, by rw [ea]; exact h.shaped hn a, by rw [eb]; exact h.shaped hn b, ?_⟩
  rw [ea, eb, h.eqv]
  exact q G H _ (Step.id gh) (.bl _)
theorem ov_neD {α : Type} [DecidableEq α] {E : α → D} {n : Nat} (h : EqOk E n) (hn : n ≤ 60) {a b : α} (ea : d.py = (E a).py) (na : d.nd = true) (eb : e.py = (E b).py) (nb : e.nd = true) : OV (rNeD K) d e (.bl (!decide (a = b))) := fun G H x y gh rx ry Q q => by
  refine ⟨_, _, rx.dp gh na, ry.dp gh nb, by rw [ea]; exact h.shaped hn a, by rw [eb]; exact h.shaped hn b, ?_⟩
  rw [ea, eb, h.eqv]
  exact q G H _ (Step.id gh) (.bl _)
theorem any_eqv {α : Type} [DecidableEq α] {E : α → D} {n : Nat} (h : EqOk E n) (a : α) : ∀ xs : List α, ((xs.map fun x => (E x).py).any fun z => PyData.eqv z (E a).py) = decide (a ∈ xs)
  | [] => rfl
  | x :: xs => by
    rw [List.map_cons, List.any_cons, h.eqv, any_eqv h a xs]
    by_cases z : x = a
    · subst z
      simp
    · rw [decide_eq_false z, Bool.false_or]
      by_cases h2 : a ∈ xs
      · rw [decide_eq_true h2, decide_eq_true (List.mem_cons_of_mem _ h2)]
      · rw [decide_eq_false h2, decide_eq_false fun y => (List.mem_cons.mp y).elim (fun q => z q.symm) h2]
theorem ov_notInD {α : Type} [DecidableEq α] {E : α → D} {n : Nat} (h : EqOk E n) (hn : n + 1 ≤ 60) {a : α} {ys : List α} : OV (rNotInD K) (E a) (.lst (ys.map E)) (.bl (!decide (a ∈ ys))) := fun G H x y gh rx ry Q q => by
  have hl := h.lst
  have e : (D.lst (ys.map E)).py = .list (ys.map fun x => (E x).py) := by rw [D.py, pyL_map]
  have z := ry.dp (K := K) gh (hl.nd ys)
  have z2 := hl.shaped hn ys
  rw [e] at z z2
  refine ⟨(E a).py, ys.map fun x => (E x).py, rx.dp gh (h.nd a), z, h.shaped (by omega) a, z2, ?_⟩
  rw [any_eqv h]
  exact q G H _ (Step.id gh) (.bl _)
theorem ov_ixT {i : Int} (h : d.items = some ds) (hi : atI ds i = some f) : OV (rIxT K) d (.int i) f := fun G H x y gh rx ry Q q => by
  cases ry
  obtain ⟨a, vs, rfl, hs, ra⟩ := rx.items h
  obtain ⟨j, e1, e2, e3, e4⟩ := atI_get hi
  obtain ⟨v, hv, rv⟩ := ra.get e2
  refine ⟨a, vs, i, v, rfl, rfl, .inl (gh.rd hs), ?_, q G H v (Step.id gh) rv⟩
  unfold atI at hi ⊢
  rw [ra.length]
  cases q0 : ixN ds.length i with
  | none =>
    rw [q0] at hi
    cases hi
  | some m =>
    rw [q0] at hi
    have hm : ds[m]? = some f := hi
    show vs[m]? = some v
    have : m = j := by
      have z := (ixN_seq q0).1
      rw [e1] at z
      exact (Option.some.inj z).symm
    subst this
    exact hv
theorem ov_ixL {i : Int} (hi : atI ds i = some f) : OV (rIxL K) (.lst ds) (.int i) f := fun G H x y gh rx ry Q q => by
  cases ry
  cases rx with
  | lst hs ra =>
    obtain ⟨j, e1, e2, e3, e4⟩ := atI_get hi
    obtain ⟨v, hv, rv⟩ := ra.get e2
    refine ⟨_, _, i, v, rfl, rfl, .inl (.inl (gh _ _ hs)), ?_, q G H v (Step.id gh) rv⟩
    unfold atI at hi ⊢
    rw [ra.length]
    cases q0 : ixN ds.length i with
    | none =>
      rw [q0] at hi
      cases hi
    | some m =>
      rw [q0] at hi
      have hm : ds[m]? = some f := hi
      show _ = some v
      have : m = j := by
        have z := (ixN_seq q0).1
        rw [e1] at z
        exact (Option.some.inj z).symm
      subst this
      exact hv
theorem ol_cat {as bs : List D} (hl : as.length + bs.length ≤ 1000000) : OL rCat (.lst as) (.lst bs) (as ++ bs) := fun G H x y gh rx ry Q q => by
  cases rx with
  | lst h1 a1 =>
    cases ry with
    | lst h2 a2 =>
      exact ⟨_, _, _, _, rfl, rfl, gh _ _ h1, gh _ _ h2, by rw [a1.length, a2.length, sizeLine_eq]; omega, fun p hp =>
        q G _ p _ (Step.new0 gh hp) hp (ex_none gh hp) upd_same (a1.app a2)⟩
theorem ov_catA {as bs : List D} (hd : d.items = some as) (he : e.items = some bs) (hl : as.length + bs.length ≤ 1000000) : OV (rCatA K) d e (.tup (as ++ bs)) := fun G H x y gh rx ry Q q => by
  obtain ⟨a, vs, rfl, h1, a1⟩ := rx.items hd
  obtain ⟨b, ws, rfl, h2, a2⟩ := ry.items he
  refine ⟨a, b, vs, ws, rfl, rfl, .inl (gh.rd h1), .inl (gh.rd h2), by rw [a1.length, a2.length, sizeLine_eq]; omega, fun hn => ?_, fun hn hm => ?_, fun hn hm p hp => ?_⟩
  · have z := a1.nil_iff.mp hn
    subst z
    exact q G H _ (Step.id gh) (.tup h2 a2)
  · have z := a2.nil_iff.mp hm
    subst z
    rw [List.append_nil] at q
    exact q G H _ (Step.id gh) (.tup h1 a1)
  · exact q _ _ _ (Step.new gh hp) (.tup (.inl upd_same) ((a1.app a2).mono (Ex.new (ex_none gh hp))))
theorem rep_one {α : Type} (x : α) : ∀ n : Nat, (List.replicate n [x]).flatten = List.replicate n x
  | 0 => rfl
  | n + 1 => by
    rw [List.replicate_succ, List.flatten_cons, rep_one x n, List.replicate_succ]
    rfl
theorem RpA.rep {G : Hp} {v : V} (h : Rp G v d) : ∀ n : Nat, RpA G (List.replicate n v) (List.replicate n d)
  | 0 => .nil
  | n + 1 => .cons h (RpA.rep h n)
theorem ol_rep {k : Int} (h0 : 0 ≤ k) (hk : k ≤ 1000) : OL rRep (.lst [d]) (.int k) (List.replicate k.toNat d) := fun G H x y gh rx ry Q q => by
  cases ry
  cases rx with
  | lst h1 a1 =>
    cases a1 with
    | cons r1 a2 =>
      cases a2
      refine ⟨_, k, _, rfl, rfl, gh _ _ h1, by omega, by omega, by rw [sizeLine_eq]; show 1 * k.toNat ≤ _; omega, fun p hp => ?_⟩
      rw [rep_one]
      exact q G _ p _ (Step.new0 gh hp) hp (ex_none gh hp) upd_same (RpA.rep r1 _)
theorem ov_repT {k : Int} (h0 : 2 ≤ k) (hk : k ≤ 1000) : OV (rRepT K) (.tup [d]) (.int k) (.tup (List.replicate k.toNat d)) := fun G H x y gh rx ry Q q => by
  cases ry
  cases rx with
  | tup h1 a1 =>
    cases a1 with
    | cons r1 a2 =>
      cases a2
      refine ⟨_, k, _, rfl, rfl, .inl (gh.rd h1), List.cons_ne_nil _ _, h0, hk, by show 1 ≤ 1000; decide, fun p hp => ?_⟩
      rw [rep_one]
      exact q _ _ _ (Step.new gh hp) (.tup (.inl upd_same) ((RpA.rep r1 _).mono (Ex.new (ex_none gh hp))))

/-! calls -/
theorem cv_len (h : d.seq = some ds) : CV (fun xs H Q => ∃ p ys, xs = [.ref p] ∧ (SqL K H p ys ∨ SqT K H p ys) ∧ Q (.int ys.length) H) [d] (.int ds.length) := fun G H vs gh r Q q => by
  cases r with
  | cons r1 r2 =>
    cases r2
    obtain ⟨a, vs, rfl, hs, ra⟩ := r1.seq (K := K) gh h
    refine ⟨a, vs, rfl, hs, ?_⟩
    rw [ra.length]
    exact q G H _ (Step.id gh) (.int _)
theorem cv_tuple {as : List D} : CV (fun xs H Q => ∃ p ys, xs = [.ref p] ∧ ((SqL K H p ys ∧ ∀ l, H l = none → Q (.ref l) (upd H l (.tup ys))) ∨ (SqT K H p ys ∧ Q (.ref p) H))) [.lst as] (.tup as) := fun G H vs gh r Q q => by
  cases r with
  | cons r1 r2 =>
    cases r2
    cases r1 with
    | lst h1 a1 => exact ⟨_, _, rfl, .inl ⟨.inl (.inl (gh _ _ h1)), fun p hp => q _ _ _ (Step.new gh hp) (.tup (.inl upd_same) (a1.mono (Ex.new (ex_none gh hp))))⟩⟩
theorem cv_tupF {as : List D} : CV (rTupF K) [.lst as] (.tuf as) := fun G H vs gh r Q q => by
  cases r with
  | cons r1 r2 =>
    cases r2
    cases r1 with
    | lst h1 a1 => exact ⟨_, _, rfl, .inl (.inl (gh _ _ h1)), fun p o hp hd => q _ _ _ (Step.new gh hp) (.tuf upd_same hd (a1.mono (Ex.new (ex_none gh hp))))⟩
theorem cl_list (h : d.seq = some ds) : CL (fun xs H Q => ∃ p ys, xs = [.ref p] ∧ (SqL K H p ys ∨ SqT K H p ys) ∧ ∀ l, H l = none → Q (.ref l) (upd H l (.lst ys))) [d] ds := fun G H vs gh r Q q => by
  cases r with
  | cons r1 r2 =>
    cases r2
    obtain ⟨a, vs, rfl, hs, ra⟩ := r1.seq (K := K) gh h
    exact ⟨a, vs, rfl, hs, fun p hp => q G _ p vs (Step.new0 gh hp) hp (ex_none gh hp) upd_same ra⟩
theorem cv_int {i : Int} : CV (fun xs H Q => (∃ i, xs = [V.int i] ∧ Q (V.int i) H) ∨ ∃ k, xs = [V.bl k] ∧ Q (V.int (if k then 1 else 0)) H) [.int i] (.int i) := fun G H vs gh r Q q => by
  cases r with
  | cons r1 r2 =>
    cases r2
    cases r1
    exact .inl ⟨i, rfl, q G H _ (Step.id gh) (.int _)⟩
theorem cv_sum {ns : List Int} : CV (rSum K) [.lst (ns.map D.int)] (.int ns.sum) := fun G H vs gh r Q q => by
  cases r with
  | cons r1 r2 =>
    cases r2
    cases r1 with
    | lst h1 a1 =>
      have ev := a1.ints
      subst ev
      exact ⟨_, ns, rfl, .inl (.inl (gh _ _ h1)), q G H _ (Step.id gh) (.int _)⟩
theorem cv_all {bs : List Bool} : CV (rAll K) [.lst (bs.map D.bl)] (.bl (bs.all id)) := fun G H vs gh r Q q => by
  cases r with
  | cons r1 r2 =>
    cases r2
    cases r1 with
    | lst h1 a1 =>
      have ev := a1.bls
      subst ev
      exact ⟨_, bs, rfl, .inl (.inl (gh _ _ h1)), q G H _ (Step.id gh) (.bl _)⟩
theorem cv_any {bs : List Bool} : CV (rAny K) [.lst (bs.map D.bl)] (.bl (bs.any id)) := fun G H vs gh r Q q => by
  cases r with
  | cons r1 r2 =>
    cases r2
    cases r1 with
    | lst h1 a1 =>
      have ev := a1.bls
      subst ev
      exact ⟨_, bs, rfl, .inl (.inl (gh _ _ h1)), q G H _ (Step.id gh) (.bl _)⟩
/-- the pairs of a list, by their addresses -/
theorem RpA.prs {G H : Hp} (gh : Ex G H) : ∀ {kvs : List (Int × D)} {vs : List V}, RpA G vs (kvs.map fun kv => .tup [.int kv.1, kv.2]) →
    ∃ (ps : List Addr) (ks : List (Key × V)), vs = ps.map V.ref ∧ RpK G ks kvs ∧ Paired (fun p kv => SqT K H p [kV kv.1, kv.2]) ps ks
  | [], vs, h => by
    cases h
    exact ⟨[], [], rfl, .nil, .nil⟩
  | (k, d) :: kvs, vs, h => by
    rw [List.map_cons] at h
    cases h with
    | cons a b =>
      obtain ⟨ps, ks, e1, e2, e3⟩ := RpA.prs gh b
      obtain ⟨p, ws, rfl, h1, r1⟩ := a.items rfl
      cases r1 with
      | cons x y =>
        cases y with
        | cons z w =>
          cases w
          cases x
          refine ⟨p :: ps, (Sum.inl k, _) :: ks, by rw [e1] <;> rfl, .cons z e2, .cons (.inl (gh.rd h1)) e3⟩
theorem cm_dictL {kvs : List (Int × D)} : CM (fun xs H Q => ∃ (a : Addr) (ps : List Addr) (kvs : List (Key × V)), xs = [.ref a] ∧ SqL K H a (ps.map V.ref) ∧ Paired (fun p kv => SqT K H p [kV kv.1, kv.2]) ps kvs ∧
    ∀ p, H p = none → Q (.ref p) (upd H p (.dK (mergeK [] kvs)))) [.lst (kvs.map fun kv => .tup [.int kv.1, kv.2])] (mergeD [] kvs) := fun G H vs gh r Q q => by
  cases r with
  | cons r1 r2 =>
    cases r2
    cases r1 with
    | lst h1 a1 =>
      obtain ⟨ps, ks, e1, e2, e3⟩ := RpA.prs (K := K) gh a1
      subst e1
      exact ⟨_, ps, ks, rfl, .inl (.inl (gh _ _ h1)), e3, fun p hp => q G _ p _ (Step.new0 gh hp) hp (ex_none gh hp) upd_same (RpK.merge .nil e2)⟩
theorem cm_dictT {kvs : List (Int × D)} : CM (fun xs H Q => ∃ (a : Addr) (o : Obj) (ps : List Addr) (kvs : List (Key × V)), xs = [.ref a] ∧ H a = some (.frz o (.tup (ps.map V.ref))) ∧ o.dict = none ∧
    Paired (fun p kv => SqT K H p [kV kv.1, kv.2]) ps kvs ∧ ∀ p, H p = none → Q (.ref p) (upd H p (.dK (mergeK [] kvs)))) [.tuf (kvs.map fun kv => .tup [.int kv.1, kv.2])] (mergeD [] kvs) := fun G H vs gh r Q q => by
  cases r with
  | cons r1 r2 =>
    cases r2
    cases r1 with
    | tuf h1 hd a1 =>
      obtain ⟨ps, ks, e1, e2, e3⟩ := RpA.prs (K := K) gh a1
      subst e1
      exact ⟨_, _, ps, ks, rfl, gh _ _ h1, hd, e3, fun p hp => q G _ p _ (Step.new0 gh hp) hp (ex_none gh hp) upd_same (RpK.merge .nil e2)⟩
end
end Wa
set_option maxHeartbeats 4000000
/-! Walks, targets, comprehensions by data. -/
namespace Wa
open PySem PySem.Spec PyProof.Rows L2

/-! ### targets -/
def setV (σ : L2.St) : List (Nat × V) → L2.St
  | [] => σ
  | (i, v) :: r => setV (σ.set i (some v)) r
def setS (sl : List Sl) : List (Nat × D) → List Sl
  | [] => sl
  | (i, d) :: r => setS (sl.set i (.d d)) r
def wipeS (sl : List Sl) : List Nat → List Sl
  | [] => sl
  | v :: vs => (wipeS sl vs).set v .un
abbrev Ups (G : Hp) : List (Nat × V) → List (Nat × D) → Prop := Paired fun p q => p.1 = q.1 ∧ Rp G p.2 q.2
def DG (g : TG) (d : D) (us : List (Nat × D)) : Prop := ∀ G H x σ (Q : L2.St → Hp → Prop), Ex G H → Rp G x d → (∀ vals, Ups G vals us → Q (setV σ vals) H) → g x σ H Q
def DGs (g : TGs) (ds : List D) (us : List (Nat × D)) : Prop := ∀ G H xs σ (Q : L2.St → Hp → Prop), Ex G H → RpA G xs ds → (∀ vals, Ups G vals us → Q (setV σ vals) H) → g xs σ H Q
section
variable {S : Option Addr} {G H : Hp} {σ : L2.St} {sl : List Sl} {d : D} {ds : List D} {us : List (Nat × D)} {K : PySem.W.Frag}
theorem dg_name {i : Nat} : DG (gName i) d [(i, d)] := fun G H x σ Q gh r q => q [(i, x)] (.cons ⟨rfl, r⟩ .nil)
theorem dgs_nil : DGs gNil [] [] := fun G H xs σ Q gh r q => by
  cases r
  exact ⟨rfl, q [] .nil⟩
theorem dgs_cons {i : Nat} {u : TGs} (h : DGs u ds us) : DGs (gCons (gName i) u) (d :: ds) ((i, d) :: us) := fun G H xs σ Q gh r q => by
  cases r with
  | cons a b => exact ⟨_, _, rfl, h G H _ _ Q gh b fun vals hv => q ((i, _) :: vals) (.cons ⟨rfl, a⟩ hv)⟩
theorem dg_tup {n : Nat} {t : TGs} (e : d.items = some ds) (h : DGs t ds us) (hn : ds.length = n := by rfl) : DG (gTup K n t) d us := fun G H x σ Q gh r q => by
  obtain ⟨a, vs, rfl, h1, ra⟩ := r.items e
  exact ⟨a, vs, rfl, .inl (gh.rd h1), by rw [ra.length]; exact hn, h G H vs σ Q gh ra q⟩
theorem own_set {sl : List Sl} {i j : Nat} {x y : Sl} (hx : x.own = false) (e : (sl.set i x)[j]? = some y) (hy : y.own = true) : i ≠ j ∧ sl[j]? = some y := by
  by_cases hj : i = j
  · subst hj
    by_cases hi : i < sl.length
    · rw [List.getElem?_set_self hi] at e
      cases e
      rw [hx] at hy
      cases hy
    · rw [List.getElem?_eq_none (by rw [List.length_set]; omega)] at e
      cases e
  · rw [List.getElem?_set_ne hj] at e
    exact ⟨hj, e⟩
theorem ap_set {σ : L2.St} {sl : List Sl} {i : Nat} {o : Option V} {x : Sl} (hx : x.own = false)
    (h : ∀ (i j : Nat) (x y : Sl) (p : Addr), sl[i]? = some x → sl[j]? = some y → x.own = true → y.own = true → σ[i]? = some (some (.ref p)) → σ[j]? = some (some (.ref p)) → i = j) :
    ∀ (a b : Nat) (y z : Sl) (p : Addr), (sl.set i x)[a]? = some y → (sl.set i x)[b]? = some z → y.own = true → z.own = true → (σ.set i o)[a]? = some (some (.ref p)) → (σ.set i o)[b]? = some (some (.ref p)) → a = b := fun a b y z p e1 e2 o1 o2 e3 e4 => by
  obtain ⟨n1, f1⟩ := own_set hx e1 o1
  obtain ⟨n2, f2⟩ := own_set hx e2 o2
  rw [List.getElem?_set_ne n1] at e3
  rw [List.getElem?_set_ne n2] at e4
  exact h a b y z p f1 f2 o1 o2 e3 e4
theorem StE.set1 (h : StE S G H σ sl) {i : Nat} {v : V} (r : Rp G v d) : StE S G H (σ.set i (some v)) (sl.set i (.d d)) := by
  refine ⟨h.gh, by rw [List.length_set, List.length_set, h.len], fun j x e => ?_, h.src, ap_set rfl h.ap⟩
  by_cases hj : i = j
  · subst hj
    by_cases hi : i < sl.length
    · rw [List.getElem?_set_self hi] at e
      cases e
      rw [List.getElem?_set_self (by rw [h.len]; exact hi)]
      exact ⟨v, rfl, r⟩
    · rw [List.getElem?_eq_none (by rw [List.length_set]; omega)] at e
      cases e
  · rw [List.getElem?_set_ne hj] at e
    rw [List.getElem?_set_ne hj]
    exact h.sls j x e
theorem StE.setV : ∀ {us : List (Nat × D)} {vals : List (Nat × V)} {σ : L2.St} {sl : List Sl}, StE S G H σ sl → Ups G vals us → StE S G H (setV σ vals) (setS sl us)
  | [], _, _, _, h, p => by
    cases p
    exact h
  | (i, d) :: us, _, _, _, h, p => by
    cases p with
    | @cons a _ _ _ x y =>
      obtain ⟨j, v⟩ := a
      obtain ⟨e, r⟩ := x
      cases e
      have h1 := h.set1 (i := i) r
      have q := StE.setV h1 y
      exact q
theorem StE.un1 (h : StE S G H σ sl) {i : Nat} (o : Option V) : StE S G H (σ.set i o) (sl.set i .un) := by
  refine ⟨h.gh, by rw [List.length_set, List.length_set, h.len], fun j x e => ?_, h.src, ap_set rfl h.ap⟩
  by_cases hj : i = j
  · subst hj
    by_cases hi : i < sl.length
    · rw [List.getElem?_set_self hi] at e
      cases e
      trivial
    · rw [List.getElem?_eq_none (by rw [List.length_set]; omega)] at e
      cases e
  · rw [List.getElem?_set_ne hj] at e
    rw [List.getElem?_set_ne hj]
    exact h.sls j x e
theorem StE.wipe : ∀ {vs : List Nat}, StE S G H σ sl → StE S G H (wipe σ vs) (wipeS sl vs)
  | [], h => h
  | v :: vs, h => StE.un1 (StE.wipe (vs := vs) h) none
end
theorem wipe_at {σ : L2.St} {i : Nat} : ∀ {vs : List Nat}, i ∈ vs → (wipe σ vs)[i]? = (σ[i]?).map fun _ => none
  | v :: vs, h => by
    show ((wipe σ vs).set v none)[i]? = _
    by_cases e : v = i
    · subst e
      by_cases hl : v < σ.length
      · rw [List.getElem?_set_self (by rw [wipe_length]; exact hl), List.getElem?_eq_getElem hl]
        rfl
      · rw [List.getElem?_eq_none (by rw [List.length_set, wipe_length]; omega), List.getElem?_eq_none (by omega)]
        rfl
    · rw [List.getElem?_set_ne e]
      exact wipe_at ((List.mem_cons.mp h).elim (fun q => absurd q.symm e) fun q => q)
theorem wipe_congr {σ τ : L2.St} {vs : List Nat} (hl : σ.length = τ.length) (h : ∀ i, i ∉ vs → σ[i]? = τ[i]?) : wipe σ vs = wipe τ vs := by
  apply List.ext_getElem?
  intro i
  by_cases hi : i ∈ vs
  · rw [wipe_at hi, wipe_at hi]
    by_cases hl2 : i < σ.length
    · rw [List.getElem?_eq_getElem hl2, List.getElem?_eq_getElem (by omega)]
      rfl
    · rw [List.getElem?_eq_none (by omega), List.getElem?_eq_none (by omega)]
  · rw [wipe_out hi, wipe_out hi]
    exact h i hi
theorem setV_length : ∀ (vals : List (Nat × V)) (σ : L2.St), (setV σ vals).length = σ.length
  | [], _ => rfl
  | (i, v) :: r, σ => by
    show (setV (σ.set i (some v)) r).length = _
    rw [setV_length r, List.length_set]
theorem setV_out {i : Nat} : ∀ (vals : List (Nat × V)) (σ : L2.St), (∀ p ∈ vals, p.1 ≠ i) → (setV σ vals)[i]? = σ[i]?
  | [], _, _ => rfl
  | (j, v) :: r, σ, h => by
    show (setV (σ.set j (some v)) r)[i]? = _
    rw [setV_out r _ fun p hp => h p (List.mem_cons_of_mem _ hp), List.getElem?_set_ne (h _ List.mem_cons_self)]
theorem wipe_setV {σ : L2.St} {vs : List Nat} {vals : List (Nat × V)} (h : ∀ p ∈ vals, p.1 ∈ vs) : wipe (setV (wipe σ vs) vals) vs = wipe σ vs := by
  refine wipe_congr (by rw [setV_length, wipe_length]) fun i hi => ?_
  rw [setV_out vals _ (fun p hp e => hi (by rw [← e]; exact h p hp)), wipe_out hi]
theorem Ups.ix {G : Hp} {vs : List Nat} : ∀ {us : List (Nat × D)} {vals : List (Nat × V)}, Ups G vals us → (us.all fun u => vs.contains u.1) = true → ∀ p ∈ vals, p.1 ∈ vs
  | _, _, .nil, _ => fun p hp => nomatch hp
  | _, _, .cons (a := a) (b := b) x y, h => fun p hp => by
    rw [List.all_cons, Bool.and_eq_true] at h
    rcases List.mem_cons.mp hp with e | hp
    · rw [e, x.1]
      simpa using h.1
    · exact Ups.ix y h.2 p hp

/-! ### walks -/
def IsW (J : It) (G : Hp) (ds : List D) : Prop := ∀ G2 H2, Ex G G2 → Ex G2 H2 → (∀ i, i < ds.length → J.go i H2) ∧ J.stop ds.length H2 ∧
  ∀ i x H3, i < ds.length → J.yld i H2 x H3 → ∃ G3 d, Step none G2 H2 G3 H3 ∧ ds[i]? = some d ∧ Rp G3 x d
def DIt (wi : TI) (sl : List Sl) (ds : List D) : Prop := ∀ S G H σ, StE S G H σ sl → ∀ R : It → Hp → Prop, (∀ G' H' J, Step none G H G' H' → IsW J G' ds → R J H') → wi σ H R
section
variable {sl : List Sl} {tl te : TE} {ta : TA} {d : D} {ds : List D} {K : PySem.W.Frag}
theorem di_list (h : DV tl sl (.lst ds)) : DIt (iList K tl) sl ds := fun S G H σ st R q => h S G H σ st _ fun G1 H1 x s1 r1 => by
  cases r1 with
  | lst h1 a1 =>
    refine ⟨_, rfl, ⟨_, .inl (.inl (s1.gh _ _ h1))⟩, q G1 H1 _ s1 fun G2 H2 e2 e3 => ?_⟩
    have sq := SqL.of (K := K) (e3 _ _ (e2 _ _ h1))
    refine ⟨fun i hi => ?_, ⟨_, sq, Nat.le_of_eq a1.length⟩, fun i x H3 hi y => ?_⟩
    · obtain ⟨v, e, _⟩ := a1.get (List.getElem?_eq_getElem hi)
      exact ⟨_, v, sq, e⟩
    · obtain ⟨rfl, y⟩ := y
      obtain ⟨v, e, r⟩ := a1.get (List.getElem?_eq_getElem hi)
      have ev := y _ sq
      rw [e] at ev
      cases ev
      exact ⟨G2, _, Step.id e3, List.getElem?_eq_getElem hi, r.mono e2⟩
theorem di_tup (h : DV tl sl d) (e : d.items = some ds) : DIt (iTup K tl) sl ds := fun S G H σ st R q => h S G H σ st _ fun G1 H1 x s1 r1 => by
  obtain ⟨a, vs, rfl, h1, a1⟩ := r1.items e
  refine ⟨_, rfl, ⟨_, .inl (s1.gh.rd h1)⟩, q G1 H1 _ s1 fun G2 H2 e2 e3 => ?_⟩
  have sq : SqT K H2 a vs := .inl (e3.rd (e2.rd h1))
  refine ⟨fun i hi => ?_, ⟨_, sq, Nat.le_of_eq a1.length⟩, fun i x H3 hi y => ?_⟩
  · obtain ⟨v, e, _⟩ := a1.get (List.getElem?_eq_getElem hi)
    exact ⟨_, v, sq, e⟩
  · obtain ⟨rfl, y⟩ := y
    obtain ⟨v, e, r⟩ := a1.get (List.getElem?_eq_getElem hi)
    have ev := y _ sq
    rw [e] at ev
    cases ev
    exact ⟨G2, _, Step.id e3, List.getElem?_eq_getElem hi, r.mono e2⟩
def rangeD (lo : Int) (n : Nat) : List D := (List.range n).map fun (i : Nat) => D.int (lo + (i : Int))
theorem rangeD_len (lo : Int) (n : Nat) : (rangeD lo n).length = n := by unfold rangeD; rw [List.length_map, List.length_range]
theorem rangeD_at {lo : Int} {n i : Nat} (h : i < n) : (rangeD lo n)[i]? = some (.int (lo + i)) := by
  unfold rangeD
  rw [List.getElem?_map, List.getElem?_range h]
  rfl
theorem isW_range {lo : Int} {n : Nat} {G : Hp} : IsW (Itr lo n) G (rangeD lo n) := fun G2 H2 e2 e3 => by
  rw [rangeD_len]
  refine ⟨fun i hi => hi, Nat.le_refl _, fun i x H3 hi y => ?_⟩
  obtain ⟨rfl, rfl⟩ := y
  exact ⟨G2, _, Step.id e3, rangeD_at hi, .int _⟩
theorem di_rng1 {n : Int} (h : DA ta sl [.int n]) (hn : -1000000 ≤ n ∧ n ≤ 1000000) : DIt (iRng1 ta) sl (rangeD 0 n.toNat) := fun S G H σ st R q => h S G H σ st _ fun G1 H1 vs s1 r1 => by
  cases r1 with
  | cons a b =>
    cases b
    cases a
    exact ⟨n, rfl, by omega, by omega, q G1 H1 _ s1 isW_range⟩
theorem di_rng2 {m n : Int} (h : DA ta sl [.int m, .int n]) (hm : -1000000 ≤ m ∧ m ≤ 1000000) (hn : -1000000 ≤ n ∧ n ≤ 1000000) : DIt (iRng2 ta) sl (rangeD m (n - m).toNat) := fun S G H σ st R q => h S G H σ st _ fun G1 H1 vs s1 r1 => by
  cases r1 with
  | cons a b =>
    cases b with
    | cons c e =>
      cases e
      cases a
      cases c
      exact ⟨m, n, rfl, ⟨by omega, by omega, by omega, by omega⟩, q G1 H1 _ s1 isW_range⟩
def enumD (ds : List D) : List D := ds.zipIdx.map fun p => .tup [.int (p.2 : Nat), p.1]
theorem enumD_len (ds : List D) : (enumD ds).length = ds.length := by unfold enumD; rw [List.length_map, List.length_zipIdx]
theorem enumD_at {ds : List D} {i : Nat} {d : D} (h : ds[i]? = some d) : (enumD ds)[i]? = some (.tup [.int (i : Nat), d]) := by
  unfold enumD
  rw [List.getElem?_map, List.getElem?_zipIdx, h]
  simp
theorem pair_step {G2 H2 : Hp} {T : Addr} {i : Nat} {v : V} {d : D} (e3 : Ex G2 H2) (hT : H2 T = none) (r : Rp G2 v d) : ∃ G3, Step none G2 H2 G3 (upd H2 T (.tup [.int (i : Nat), v])) ∧ Rp G3 (.ref T) (.tup [.int (i : Nat), d]) :=
  ⟨_, Step.new e3 hT, .tup (.inl upd_same) (.cons (.int _) (.cons (r.mono (Ex.new (ex_none e3 hT))) .nil))⟩
theorem di_enumL (h : DA ta sl [.lst ds]) : DIt (iEnum K ta) sl (enumD ds) := fun S G H σ st R q => h S G H σ st _ fun G1 H1 vs s1 r1 => by
  cases r1 with
  | cons a b =>
    cases b
    cases a with
    | lst h1 a1 =>
      refine ⟨_, _, rfl, .inl (.inl (s1.gh _ _ h1)), q G1 H1 _ s1 fun G2 H2 e2 e3 => ?_⟩
      have sq := SqL.of (K := K) (e3 _ _ (e2 _ _ h1))
      rw [enumD_len]
      refine ⟨fun i hi => ?_, ⟨_, sq, Nat.le_of_eq a1.length⟩, fun i x H3 hi y => ?_⟩
      · obtain ⟨v, e, _⟩ := a1.get (List.getElem?_eq_getElem hi)
        exact ⟨_, v, sq, e⟩
      · obtain ⟨T, w, rfl, hT, rfl, y⟩ := y
        obtain ⟨v, e, r⟩ := a1.get (List.getElem?_eq_getElem hi)
        have ev := y _ sq
        rw [e] at ev
        cases ev
        obtain ⟨G3, s3, r3⟩ := pair_step (i := i) e3 hT (r.mono e2)
        exact ⟨G3, _, s3, enumD_at (List.getElem?_eq_getElem hi), r3⟩
theorem di_enumT (h : DA ta sl [d]) (ed : d.items = some ds) : DIt (iEnumT K ta) sl (enumD ds) := fun S G H σ st R q => h S G H σ st _ fun G1 H1 vs s1 r1 => by
  cases r1 with
  | cons a b =>
    cases b
    obtain ⟨a0, vs, rfl, h1, a1⟩ := a.items ed
    refine ⟨_, _, rfl, .inl (s1.gh.rd h1), q G1 H1 _ s1 fun G2 H2 e2 e3 => ?_⟩
    have sq : SqT K H2 a0 vs := .inl (e3.rd (e2.rd h1))
    rw [enumD_len]
    refine ⟨fun i hi => ⟨sq, by rw [a1.length]; exact hi⟩, ⟨sq, Nat.le_of_eq a1.length⟩, fun i x H3 hi y => ?_⟩
    · obtain ⟨T, w, rfl, hT, rfl, y⟩ := y
      obtain ⟨v, e, r⟩ := a1.get (List.getElem?_eq_getElem hi)
      rw [e] at y
      cases y
      obtain ⟨G3, s3, r3⟩ := pair_step (i := i) e3 hT (r.mono e2)
      exact ⟨G3, _, s3, enumD_at (List.getElem?_eq_getElem hi), r3⟩

/-- a free object of this def is changed -/
theorem Step.mut {S : Option Addr} {G H G' H' : Hp} {p : Addr} {o : HO} (s : Step S G H G' H') (hp : H p = none) (gp : G' p = none) : Step S G H G' (upd H' p o) := by
  refine ⟨s.gg, fun a u e => ?_, fun a u h1 h2 => ?_⟩
  · have h : a ≠ p := ne_of_none e gp
    rw [upd_ne h]
    exact s.gh a u e
  · have h : a ≠ p := ne_of_none h2 hp
    obtain ⟨g, o', e, k⟩ := s.fr a u h1 h2
    exact ⟨g, o', by rw [upd_ne h]; exact e, k⟩
theorem Step.at {G H G' H' : Hp} {p : Addr} {o : HO} (s : Step none G H G' H') (g : G p = none) (h : H p = some o) : G' p = none ∧ H' p = some o := by
  obtain ⟨g', o', e, k⟩ := s.fr p o g h
  exact ⟨g', by rw [e, k nofun]⟩

/-! ### comprehensions -/
theorem take_filter {α : Type} {p : α → Bool} {β : Type} {f : α → β} {xs : List α} {i : Nat} {x : α} (h : xs[i]? = some x) :
    ((xs.take (i + 1)).filter p).map f = ((xs.take i).filter p).map f ++ (if p x = true then [f x] else []) := by
  rw [List.take_add_one, h]
  show ((xs.take i ++ [x]).filter p).map f = _
  rw [List.filter_append, List.map_append, List.filter_cons]
  split
  · rw [List.filter_nil] <;> rfl
  · rw [List.filter_nil] <;> rfl
theorem dl_lc {α : Type} {wi : TI} {g : TG} {tt : TT} {vs : List Nat} (xs : List α) (E : α → D) (us : α → List (Nat × D)) (p : α → Bool) (f : α → D) (hi : DIt wi sl (xs.map E)) (hg : ∀ x ∈ xs, DG g (E x) (us x))
    (hu : ∀ x ∈ xs, ((us x).all fun u => vs.contains u.1) = true) (ht : ∀ x ∈ xs, DT tt (setS (wipeS sl vs) (us x)) (p x)) (he : ∀ x ∈ xs, p x = true → DV te (setS (wipeS sl vs) (us x)) (f x)) (hl : xs.length ≤ 1000000) :
    DL (tLc wi g tt te vs) sl ((xs.filter p).map f) := fun S G H σ st Q q => hi S G H σ st _ fun G1 H1 J s1 w1 => by
  intro C hC
  have hC0 : H C = none := back_none s1 st.gh hC
  have len : (xs.map E).length = xs.length := List.length_map ..
  refine ⟨fun i m H2 => m = xs.length - i ∧ i ≤ xs.length ∧ ∃ G2 acc, Step none G H G2 H2 ∧ Ex G1 G2 ∧ G2 C = none ∧ H2 C = some (.lst acc) ∧ RpA G2 acc (((xs.take i).filter p).map f),
    ⟨xs.length, by omega, by omega, G1, [], s1.tr (Step.new0 s1.gh hC), Ex.rfl' G1, ex_none s1.gh hC, upd_same, .nil⟩, ?_⟩
  rintro i m H2 ⟨rfl, hi2, G2, acc, s2, e12, gC, hA, rA⟩
  obtain ⟨wg, ws, wy⟩ := w1 G2 H2 e12 s2.gh
  rw [len] at wg ws
  by_cases hlt : i < xs.length
  · refine .inr ⟨wg i hlt, fun H3 => i + 1 ≤ xs.length ∧ ∃ G2 acc, Step none G H G2 H3 ∧ Ex G1 G2 ∧ G2 C = none ∧ H3 C = some (.lst acc) ∧ RpA G2 acc (((xs.take (i + 1)).filter p).map f),
      fun H' h' => ⟨xs.length - (i + 1), by omega, rfl, h'⟩, fun x H3 y => ?_⟩
    obtain ⟨G3, d, s3, ed, rd⟩ := wy i x H3 (by rw [len]; exact hlt) y
    have hx : xs[i]? = some xs[i] := List.getElem?_eq_getElem hlt
    have hm : xs[i] ∈ xs := List.getElem_mem hlt
    rw [List.getElem?_map, hx] at ed
    cases ed
    have s03 := s2.tr s3
    obtain ⟨gC3, hC3⟩ := s3.at gC hA
    refine hg _ hm G3 H3 x _ _ s3.gh rd fun vals hv => ⟨wipe_setV (hv.ix (hu _ hm)), ?_⟩
    have st3 := ((st.pure s03).wipe (vs := vs)).setV hv
    refine ht _ hm S G3 H3 _ st3 _ fun G4 H4 s4 => ?_
    obtain ⟨gC4, hC4⟩ := s4.at gC3 hC3
    have tf := take_filter (p := p) (f := f) hx
    cases hp : p xs[i] with
    | true =>
      rw [if_pos hp] at tf
      show te _ H4 _
      refine he _ hm hp S G4 H4 _ (st3.pure s4) _ fun G5 H5 y5 s5 r5 => ?_
      obtain ⟨gC5, hC5⟩ := s5.at gC4 hC4
      refine ⟨acc, hC5, ?_, hlt, G5, acc ++ [y5], ((s03.tr s4).tr s5).mut hC0 gC5, e12.tr (s3.gg.tr (s4.gg.tr s5.gg)), gC5, upd_same, ?_⟩
      · rw [rA.length, List.length_map, sizeLine_eq]
        have h1 := List.length_filter_le p (xs.take i)
        rw [List.length_take] at h1
        omega
      · rw [tf]
        exact (rA.mono (s3.gg.tr (s4.gg.tr s5.gg))).app (.cons r5 .nil)
    | false =>
      rw [if_neg (by rw [hp]; decide), List.append_nil] at tf
      show _ ∧ _
      refine ⟨hlt, G4, acc, s03.tr s4, e12.tr (s3.gg.tr s4.gg), gC4, hC4, ?_⟩
      rw [tf]
      exact rA.mono (s3.gg.tr s4.gg)
  · have e : i = xs.length := by omega
    subst e
    rw [List.take_length] at rA
    exact .inl ⟨ws, q G2 H2 C acc s2 hC0 gC hA rA⟩
/-- no test -/
theorem dl_lc0 {α : Type} {wi : TI} {g : TG} {vs : List Nat} (xs : List α) (E : α → D) (us : α → List (Nat × D)) (f : α → D) (hi : DIt wi sl (xs.map E)) (hg : ∀ x ∈ xs, DG g (E x) (us x))
    (hu : ∀ x ∈ xs, ((us x).all fun u => vs.contains u.1) = true) (he : ∀ x ∈ xs, DV te (setS (wipeS sl vs) (us x)) (f x)) (hl : xs.length ≤ 1000000) : DL (tLc wi g tYes te vs) sl (xs.map f) := by
  have h := dl_lc (sl := sl) (te := te) (wi := wi) (g := g) (tt := tYes) (vs := vs) xs E us (fun _ => true) f hi hg hu (fun _ _ => dt_yes) (fun x hx _ => he x hx) hl
  rw [List.filter_eq_self.mpr (fun _ _ => rfl)] at h
  exact h
end
end Wa
set_option maxHeartbeats 4000000
/-! Statements by data; what a def promises. -/
namespace Wa
open PySem PySem.Spec PyProof.Rows L2

structure Post where
  nx : List Sl → Prop
  rt : D → Prop
  bk : List Sl → Prop := fun _ => False
  ct : List Sl → Prop := fun _ => False
  rm : List (Int × D) → Prop := fun _ => False
/-- the frame F stands: what the def's callers hold besides G -/
structure Prot (S : Option Addr) (F G H : Hp) : Prop where
  fg : ∀ a o, F a = some o → G a = none
  fh : ∀ a o, F a = some o → ∃ o', H a = some o' ∧ (S ≠ some a → o' = o)
structure StS (S : Option Addr) (F G H : Hp) (σ : L2.St) (sl : List Sl) : Prop where
  e : StE S G H σ sl
  pr : Prot S F G H
  own : ∀ (i : Nat) (p : Addr) (x : Sl), sl[i]? = some x → x.own = true → σ[i]? = some (some (.ref p)) → F p = none
structure Fin (S : Option Addr) (F G : Hp) (E : Ends) (P : Post) : Prop where
  nx : ∀ G' H' σ' sl', Ex G G' → StS S F G' H' σ' sl' → P.nx sl' → E.nx σ' H'
  rt : ∀ G' H' v d, Ex G G' → Ex G' H' → Prot S F G' H' → SrcOk S G' H' → Rp G' v d → P.rt d → E.rt v H'
  bk : ∀ G' H' σ' sl', Ex G G' → StS S F G' H' σ' sl' → P.bk sl' → E.bk σ' H'
  ct : ∀ G' H' σ' sl', Ex G G' → StS S F G' H' σ' sl' → P.ct sl' → E.ct σ' H'
  rm : ∀ G' H' p kvs ks, Ex G G' → Ex G' H' → Prot S F G' H' → SrcOk S G' H' → F p = none → G' p = none → H' p = some (.dK kvs) → RpK G' kvs ks → P.rm ks → E.rt (.ref p) H'
def DS (ts : TS) (sl : List Sl) (P : Post) : Prop := ∀ S F G H σ E, StS S F G H σ sl → Fin S F G E P → ts E σ H
/-- an expression that may draw: some data of which P -/
def DE (te : TE) (sl : List Sl) (P : D → Prop) : Prop := ∀ S G H σ, StE S G H σ sl → ∀ Q : VK, (∀ G' H' v d, Step S G H G' H' → SrcOk S G' H' → Rp G' v d → P d → Q v H') → te σ H Q
def DTE (tt : TT) (sl : List Sl) (P : Bool → Prop) : Prop := ∀ S G H σ, StE S G H σ sl → ∀ Q : Bool → Hp → Prop, (∀ G' H' b, Step S G H G' H' → SrcOk S G' H' → P b → Q b H') → tt σ H Q

section
variable {S : Option Addr} {F G G' H H' : Hp} {σ : L2.St} {sl : List Sl} {E : Ends} {P : Post}
theorem Prot.step (h : Prot S F G H) (s : Step S G H G' H') : Prot S F G' H' := ⟨fun a o e => by
  obtain ⟨o', e', k⟩ := h.fh a o e
  exact (s.fr a o' (h.fg a o e) e').1, fun a o e => by
  obtain ⟨o', e', k⟩ := h.fh a o e
  obtain ⟨_, o2, e2, k2⟩ := s.fr a o' (h.fg a o e) e'
  exact ⟨o2, e2, fun n => (k2 n).trans (k n)⟩⟩
theorem StS.step (h : StS S F G H σ sl) (s : Step S G H G' H') (so : SrcOk S G' H') : StS S F G' H' σ sl := ⟨h.e.step s so, h.pr.step s, h.own⟩
theorem StS.pure (h : StS S F G H σ sl) (s : Step none G H G' H') : StS S F G' H' σ sl := h.step s.any (h.e.src.pure s)
theorem Fin.mono (h : Fin S F G E P) (e : Ex G G') : Fin S F G' E P :=
  ⟨fun G2 H2 s2 l2 e2 => h.nx G2 H2 s2 l2 (e.tr e2), fun G2 H2 v d e2 => h.rt G2 H2 v d (e.tr e2), fun G2 H2 s2 l2 e2 => h.bk G2 H2 s2 l2 (e.tr e2), fun G2 H2 s2 l2 e2 => h.ct G2 H2 s2 l2 (e.tr e2), fun G2 H2 p k ks e2 => h.rm G2 H2 p k ks (e.tr e2)⟩
theorem own_at {i : Nat} {p : Addr} {x : Sl} (h : StE S G H σ sl) (e : sl[i]? = some x) (o : x.own = true) (ep : σ[i]? = some (some (.ref p))) : G p = none ∧ S ≠ some p ∧ (∃ u, H p = some u) := by
  have q := h.sls i x e
  cases x with
  | ml xs =>
    obtain ⟨p', vs, e1, g, s, h', _⟩ := q
    rw [ep] at e1
    cases e1
    exact ⟨g, s, _, h'⟩
  | md ks =>
    obtain ⟨p', vs, e1, g, s, h', _⟩ := q
    rw [ep] at e1
    cases e1
    exact ⟨g, s, _, h'⟩
  | un => cases o
  | d => cases o
  | src => cases o
theorem StS.set1 (h : StS S F G H σ sl) {i : Nat} {v : V} {d : D} (r : Rp G v d) : StS S F G H (σ.set i (some v)) (sl.set i (.d d)) := by
  refine ⟨h.e.set1 r, h.pr, fun j p x e o ep => ?_⟩
  obtain ⟨n, e'⟩ := own_set rfl e o
  rw [List.getElem?_set_ne n] at ep
  exact h.own j p x e' o ep
theorem StS.setV : ∀ {us : List (Nat × D)} {vals : List (Nat × V)} {σ : L2.St} {sl : List Sl}, StS S F G H σ sl → Ups G vals us → StS S F G H (setV σ vals) (setS sl us)
  | [], _, _, _, h, p => by
    cases p
    exact h
  | (i, d) :: us, _, _, _, h, p => by
    cases p with
    | @cons a _ _ _ x y =>
      obtain ⟨j, v⟩ := a
      obtain ⟨e, r⟩ := x
      cases e
      have h1 := h.set1 (i := i) r
      have q := StS.setV h1 y
      exact q
/-- a free object comes into a slot -/
theorem StS.setO (h : StS S F G H σ sl) {i : Nat} {p : Addr} {x : Sl} (hx : x.own = true) (ok : SlOk S G H (some (some (.ref p))) x) (hF : F p = none) (hn : ∀ (j : Nat) (y : Sl), sl[j]? = some y → y.own = true → σ[j]? ≠ some (some (.ref p))) :
    StS S F G H (σ.set i (some (.ref p))) (sl.set i x) := by
  have at' : ∀ (j : Nat) (y : Sl), (sl.set i x)[j]? = some y → (j = i ∧ y = x ∧ (σ.set i (some (.ref p)))[j]? = some (some (V.ref p))) ∨ (i ≠ j ∧ sl[j]? = some y ∧ (σ.set i (some (.ref p)))[j]? = σ[j]?) := fun j y e => by
    by_cases hj : i = j
    · subst hj
      by_cases hi : i < sl.length
      · rw [List.getElem?_set_self hi] at e
        cases e
        exact .inl ⟨rfl, rfl, List.getElem?_set_self (by rw [h.e.len]; exact hi)⟩
      · rw [List.getElem?_eq_none (by rw [List.length_set]; omega)] at e
        cases e
    · rw [List.getElem?_set_ne hj] at e
      exact .inr ⟨hj, e, List.getElem?_set_ne hj⟩
  refine ⟨⟨h.e.gh, by rw [List.length_set, List.length_set, h.e.len], fun j y e => ?_, h.e.src, fun a b y z q e1 e2 o1 o2 e3 e4 => ?_⟩, h.pr, fun j q y e o ep => ?_⟩
  · rcases at' j y e with ⟨_, rfl, e2⟩ | ⟨_, e1, e2⟩
    · rw [e2]
      exact ok
    · rw [e2]
      exact h.e.sls j y e1
  · rcases at' a y e1 with ⟨rfl, rfl, f1⟩ | ⟨n1, g1, f1⟩
    · rcases at' b z e2 with ⟨rfl, _, _⟩ | ⟨n2, g2, f2⟩
      · rfl
      · rw [f1] at e3
        cases e3
        rw [f2] at e4
        exact absurd e4 (hn b z g2 o2)
    · rcases at' b z e2 with ⟨rfl, rfl, f2⟩ | ⟨n2, g2, f2⟩
      · rw [f2] at e4
        cases e4
        rw [f1] at e3
        exact absurd e3 (hn a y g1 o1)
      · rw [f1] at e3
        rw [f2] at e4
        exact h.e.ap a b y z q g1 g2 o1 o2 e3 e4
  · rcases at' j y e with ⟨_, rfl, e2⟩ | ⟨_, e1, e2⟩
    · rw [e2] at ep
      cases ep
      exact hF
    · rw [e2] at ep
      exact h.own j q y e1 o ep
/-- a new object comes into a slot -/
theorem StS.setNew (h : StS S F G H σ sl) (s : Step none G H G' H') {i : Nat} {p : Addr} {x : Sl} (hx : x.own = true) (hp : H p = none) (ok : SlOk S G' H' (some (some (.ref p))) x) : StS S F G' H' (σ.set i (some (.ref p))) (sl.set i x) := by
  refine (h.pure s).setO hx ok ?_ fun j y e o ep => ?_
  · cases q : F p with
    | none => rfl
    | some u =>
      obtain ⟨o', e', _⟩ := h.pr.fh p u q
      rw [hp] at e'
      cases e'
  · obtain ⟨_, _, u, e'⟩ := own_at h.e e o ep
    rw [hp] at e'
    cases e'
/-- a free object is changed -/
theorem StS.mut (h : StS S F G H σ sl) {i : Nat} {p : Addr} {x y : Sl} {o : HO} (e : sl[i]? = some x) (hx : x.own = true) (ep : σ[i]? = some (some (.ref p))) (hy : y.own = true) (ok : SlOk S G (upd H p o) (some (some (.ref p))) y) :
    StS S F G (upd H p o) σ (sl.set i y) := by
  obtain ⟨gp, sp, u, hp⟩ := own_at h.e e hx ep
  have fp := h.own i p x e hx ep
  have gh' : Ex G (upd H p o) := fun a u e => by
    have n : a ≠ p := ne_of_none e gp
    rw [upd_ne n]
    exact h.e.gh a u e
  have at' : ∀ (j : Nat) (z : Sl), (sl.set i y)[j]? = some z → (j = i ∧ z = y) ∨ (i ≠ j ∧ sl[j]? = some z) := fun j z e => by
    by_cases hj : i = j
    · subst hj
      by_cases hi : i < sl.length
      · rw [List.getElem?_set_self hi] at e
        cases e
        exact .inl ⟨rfl, rfl⟩
      · rw [List.getElem?_eq_none (by rw [List.length_set]; omega)] at e
        cases e
    · rw [List.getElem?_set_ne hj] at e
      exact .inr ⟨hj, e⟩
  refine ⟨⟨gh', by rw [List.length_set, h.e.len], fun j z ez => ?_, fun a ea => ?_, fun a b w z q e1 e2 o1 o2 e3 e4 => ?_⟩, ⟨h.pr.fg, fun a u ea => ?_⟩, fun j q z ez oz eq => ?_⟩
  · rcases at' j z ez with ⟨rfl, rfl⟩ | ⟨n, ez⟩
    · rw [ep]
      exact ok
    · have q := h.e.sls j z ez
      cases z with
      | un => trivial
      | d w => exact q
      | src => exact q
      | ml xs =>
        obtain ⟨p', vs, e1, g, s, h', r⟩ := q
        have np : p' ≠ p := fun e2 => n (h.e.ap i j x _ p e ez hx rfl ep (by rw [e1, e2]))
        exact ⟨p', vs, e1, g, s, by rw [upd_ne np]; exact h', r⟩
      | md ks =>
        obtain ⟨p', vs, e1, g, s, h', r⟩ := q
        have np : p' ≠ p := fun e2 => n (h.e.ap i j x _ p e ez hx rfl ep (by rw [e1, e2]))
        exact ⟨p', vs, e1, g, s, by rw [upd_ne np]; exact h', r⟩
  · have np : a ≠ p := fun e2 => sp (by rw [ea, e2])
    obtain ⟨g, l, cs, a1, a2, a3, q, r⟩ := h.e.src a ea
    exact ⟨g, l, cs, a1, a2, a3, by rw [upd_ne np]; exact q, r⟩
  · rcases at' a w e1 with ⟨rfl, rfl⟩ | ⟨n1, g1⟩
    · rcases at' b z e2 with ⟨rfl, rfl⟩ | ⟨n2, g2⟩
      · rfl
      · exact h.e.ap _ b x z q e g2 hx o2 e3 e4
    · rcases at' b z e2 with ⟨rfl, rfl⟩ | ⟨n2, g2⟩
      · exact h.e.ap a _ w x q g1 e o1 hx e3 e4
      · exact h.e.ap a b w z q g1 g2 o1 o2 e3 e4
  · obtain ⟨o', e', k⟩ := h.pr.fh a u ea
    have np : a ≠ p := fun e2 => by
      rw [e2, fp] at ea
      cases ea
    exact ⟨o', by rw [upd_ne np]; exact e', k⟩
  · rcases at' j z ez with ⟨rfl, rfl⟩ | ⟨n, ez⟩
    · exact h.own _ q x e hx eq
    · exact h.own j q z ez oz eq
/-- a free object is frozen -/
theorem StE.frz (h : StE S G H σ sl) {i : Nat} {p : Addr} {x : Sl} {o : HO} {d : D} (e : sl[i]? = some x) (hx : x.own = true) (ep : σ[i]? = some (some (.ref p))) (ho : H p = some o) (r : Rp (upd G p o) (.ref p) d) : StE S (upd G p o) H σ (sl.set i (.d d)) := by
  obtain ⟨gp, sp, _, _⟩ := own_at h e hx ep
  have xg : Ex G (upd G p o) := Ex.new gp
  have hi : i < sl.length := (List.getElem?_eq_some_iff.mp e).1
  refine ⟨fun a u ea => ?_, by rw [List.length_set, h.len], fun j z ez => ?_, fun a ea => ?_, fun a b w z q e1 e2 o1 o2 e3 e4 => ?_⟩
  · by_cases n : a = p
    · subst n
      rw [upd_same] at ea
      cases ea
      exact ho
    · rw [upd_ne n] at ea
      exact h.gh a u ea
  · by_cases hj : i = j
    · subst hj
      rw [List.getElem?_set_self hi] at ez
      cases ez
      exact ⟨_, ep, r⟩
    · rw [List.getElem?_set_ne hj] at ez
      have q := h.sls j z ez
      cases z with
      | un => trivial
      | d w =>
        obtain ⟨v, e1, r1⟩ := q
        exact ⟨v, e1, r1.mono xg⟩
      | src => exact q
      | ml xs =>
        obtain ⟨p', vs, e1, g, s, h', r⟩ := q
        have np : p' ≠ p := fun e2 => hj (h.ap i j x _ p e ez hx rfl ep (by rw [e1, e2]))
        exact ⟨p', vs, e1, by rw [upd_ne np]; exact g, s, h', r.mono xg⟩
      | md ks =>
        obtain ⟨p', vs, e1, g, s, h', r⟩ := q
        have np : p' ≠ p := fun e2 => hj (h.ap i j x _ p e ez hx rfl ep (by rw [e1, e2]))
        exact ⟨p', vs, e1, by rw [upd_ne np]; exact g, s, h', r.mono xg⟩
  · have np : a ≠ p := fun e2 => sp (by rw [ea, e2])
    obtain ⟨g, l, cs, a1, a2, a3, q, q2, r⟩ := h.src a ea
    exact ⟨by rw [upd_ne np]; exact g, l, cs, a1, a2, a3, q, xg _ _ q2, r⟩
  · obtain ⟨_, f1⟩ := own_set (i := i) (x := .d d) rfl e1 o1
    obtain ⟨_, f2⟩ := own_set (i := i) (x := .d d) rfl e2 o2
    exact h.ap a b w z q f1 f2 o1 o2 e3 e4
theorem StS.frz (h : StS S F G H σ sl) {i : Nat} {p : Addr} {x : Sl} {o : HO} {d : D} (e : sl[i]? = some x) (hx : x.own = true) (ep : σ[i]? = some (some (.ref p))) (ho : H p = some o) (r : Rp (upd G p o) (.ref p) d) : StS S F (upd G p o) H σ (sl.set i (.d d)) := by
  have fp := h.own i p x e hx ep
  refine ⟨h.e.frz e hx ep ho r, ⟨fun a u ea => ?_, h.pr.fh⟩, fun j q z ez oz eq => ?_⟩
  · have np : a ≠ p := fun e2 => by
      rw [e2, fp] at ea
      cases ea
    rw [upd_ne np]
    exact h.pr.fg a u ea
  · obtain ⟨_, f1⟩ := own_set (i := i) (x := .d d) rfl ez oz
    exact h.own j q z f1 oz eq
end

/-! ### looking at a free object -/
def D.flat : D → Bool
  | .non => true
  | .bl _ => true
  | .int _ => true
  | .str _ => true
  | _ => false
theorem Rp.flat {G G' : Hp} {v : V} {d : D} (h : Rp G v d) (f : d.flat = true) : Rp G' v d := by
  cases h with
  | non => exact .non
  | bl => exact .bl _
  | int => exact .int _
  | str => exact .str _
  | tup => cases f
  | tuf => cases f
  | lst => cases f
  | dic => cases f
theorem step_drop {G H G' H' : Hp} {p : Addr} {o : HO} (gh : Ex G H) (gp : G p = none) (ho : H p = some o) (s : Step none (upd G p o) H G' H') : Step none G H G H' := by
  have xg : Ex G (upd G p o) := Ex.new gp
  refine ⟨Ex.rfl' G, (xg.tr s.gg).tr s.gh, fun a u h1 h2 => ⟨h1, ?_⟩⟩
  by_cases n : a = p
  · subst n
    have e := s.gh a o (s.gg a o upd_same)
    rw [ho] at h2
    cases h2
    exact ⟨_, e, fun _ => rfl⟩
  · obtain ⟨_, o', e, k⟩ := s.fr a u (by rw [upd_ne n]; exact h1) h2
    exact ⟨o', e, k⟩
section
variable {sl : List Sl} {te : TE} {tt : TT} {d : D} {i : Nat} {xs : List D} {ks : List (Int × D)}
theorem dv_peek (h : sl[i]? = some (.ml xs)) (f : d.flat = true) (hv : DV te (sl.set i (.d (.lst xs))) d) : DV te sl d := fun S G H σ st Q q => by
  obtain ⟨p, vs, e1, g, s, h', r⟩ := st.sls i _ h
  refine hv S _ H σ (st.frz h rfl e1 h' (.lst upd_same (r.mono (Ex.new g)))) Q fun G' H' v s1 r1 => ?_
  exact q G H' v (step_drop st.gh g h' s1) (r1.flat f)
theorem dv_peekM (h : sl[i]? = some (.md ks)) (f : d.flat = true) (hv : DV te (sl.set i (.d (.dic ks))) d) : DV te sl d := fun S G H σ st Q q => by
  obtain ⟨p, vs, e1, g, s, h', r⟩ := st.sls i _ h
  refine hv S _ H σ (st.frz h rfl e1 h' (.dic (.inl upd_same) (r.mono (Ex.new g)))) Q fun G' H' v s1 r1 => ?_
  exact q G H' v (step_drop st.gh g h' s1) (r1.flat f)
theorem dt_peek {b : Bool} (h : sl[i]? = some (.ml xs)) (hv : DT tt (sl.set i (.d (.lst xs))) b) : DT tt sl b := fun S G H σ st Q q => by
  obtain ⟨p, vs, e1, g, s, h', r⟩ := st.sls i _ h
  exact hv S _ H σ (st.frz h rfl e1 h' (.lst upd_same (r.mono (Ex.new g)))) Q fun G' H' s1 => q G H' (step_drop st.gh g h' s1)
theorem dt_peekM {b : Bool} (h : sl[i]? = some (.md ks)) (hv : DT tt (sl.set i (.d (.dic ks))) b) : DT tt sl b := fun S G H σ st Q q => by
  obtain ⟨p, vs, e1, g, s, h', r⟩ := st.sls i _ h
  exact hv S _ H σ (st.frz h rfl e1 h' (.dic (.inl upd_same) (r.mono (Ex.new g)))) Q fun G' H' s1 => q G H' (step_drop st.gh g h' s1)
theorem DV.e {P : D → Prop} (h : DV te sl d) (p : P d) : DE te sl P := fun S G H σ st Q q => h S G H σ st Q fun G' H' v s r => q G' H' v d s.any (st.src.pure s) r p
theorem DT.e {b : Bool} {P : Bool → Prop} (h : DT tt sl b) (p : P b) : DTE tt sl P := fun S G H σ st Q q => h S G H σ st Q fun G' H' s => q G' H' b s.any (st.src.pure s) p
end
end Wa
set_option maxHeartbeats 4000000
/-! The rules for statements, loops and defs by data. -/
namespace Wa
open PySem PySem.Spec PyProof.Rows L2
section
variable {sl : List Sl} {P : Post} {t u tu tw : TS} {te ta tb tc : TE} {tt : TT} {tr : TA} {g : TG} {wi : TI} {d : D} {xs ds : List D} {ks : List (Int × D)} {K : PySem.W.Frag}

theorem src_ne {S : Option Addr} {G H : Hp} (so : SrcOk S G H) {p : Addr} (hp : H p = none) : S ≠ some p := fun q => by
  obtain ⟨_, _, _, _, _, _, e', _⟩ := so p q
  rw [hp] at e'
  cases e'
theorem ds_seq (h : DS t sl { P with nx := fun s => DS u s P }) : DS (tSeq t u) sl P := fun S F G H σ E st fin => by
  refine h S F G H σ { E with nx := u E } st ⟨fun G' H' σ' sl' e s p => ?_, fin.rt, fin.bk, fin.ct, fin.rm⟩
  exact p S F G' H' σ' E s (fin.mono e)
theorem ds_nx (h : P.nx sl) : DS tNext sl P := fun S F G H σ E st fin => fin.nx G H σ sl (Ex.rfl' G) st h
theorem ds_ct (h : P.ct sl) : DS tCont sl P := fun S F G H σ E st fin => fin.ct G H σ sl (Ex.rfl' G) st h
theorem ds_bk (h : P.bk sl) : DS tBreak sl P := fun S F G H σ E st fin => fin.bk G H σ sl (Ex.rfl' G) st h
theorem ds_retE (h : DE te sl P.rt) : DS (tRet te) sl P := fun S F G H σ E st fin => h S G H σ st.e _ fun G' H' v d s so r p => fin.rt G' H' v d s.gg s.gh (st.pr.step s) so r p
theorem ds_ret (h : DV te sl d) (p : P.rt d) : DS (tRet te) sl P := ds_retE (h.e p)
theorem ds_never {Q : Prop} (h : False) : DS tNever sl P := h.elim
theorem ds_asgE {Pd : D → Prop} {us : D → List (Nat × D)} (h : DE te sl Pd) (hg : ∀ d, Pd d → DG g d (us d)) (k : ∀ d, Pd d → P.nx (setS sl (us d))) : DS (tAsg te g) sl P := fun S F G H σ E st fin =>
  h S G H σ st.e _ fun G' H' v d s so r p => hg d p G' H' v σ E.nx s.gh r fun vals hv => fin.nx G' H' _ _ s.gg ((st.step s so).setV hv) (k d p)
theorem ds_asg {us : List (Nat × D)} (h : DV te sl d) (hg : DG g d us) (k : P.nx (setS sl us)) : DS (tAsg te g) sl P :=
  ds_asgE (Pd := fun x => x = d) (us := fun _ => us) (h.e rfl) (fun x e => e ▸ hg) fun _ _ => k
theorem ds_set {i : Nat} (h : DV te sl d) (k : P.nx (sl.set i (.d d))) : DS (tAsg te (gName i)) sl P := ds_asg h dg_name k
theorem ds_setE {i : Nat} {Pd : D → Prop} (h : DE te sl Pd) (k : ∀ d, Pd d → P.nx (sl.set i (.d d))) : DS (tAsg te (gName i)) sl P := ds_asgE (us := fun d => [(i, d)]) h (fun _ _ => dg_name) k
theorem ds_asgL {i : Nat} (h : DL te sl xs) (k : P.nx (sl.set i (.ml xs))) : DS (tAsg te (gName i)) sl P := fun S F G H σ E st fin =>
  h S G H σ st.e _ fun G' H' p vs s hp gp e r => fin.nx G' H' _ _ s.gg (st.setNew (x := .ml xs) s rfl hp ⟨p, vs, rfl, gp, src_ne st.e.src hp, e, r⟩) k
theorem ds_asgM {i : Nat} (h : DM te sl ks) (k : P.nx (sl.set i (.md ks))) : DS (tAsg te (gName i)) sl P := fun S F G H σ E st fin =>
  h S G H σ st.e _ fun G' H' p vs s hp gp e r => fin.nx G' H' _ _ s.gg (st.setNew (x := .md ks) s rfl hp ⟨p, vs, rfl, gp, src_ne st.e.src hp, e, r⟩) k
theorem ds_ifE {Pb : Bool → Prop} (h : DTE tt sl Pb) (h1 : Pb true → DS t sl P) (h2 : Pb false → DS u sl P) : DS (tIfS tt t u) sl P := fun S F G H σ E st fin =>
  h S G H σ st.e _ fun G' H' b s so p => by
    cases b with
    | true =>
      show t E σ H'
      exact h1 p S F G' H' σ E (st.step s so) (fin.mono s.gg)
    | false =>
      show u E σ H'
      exact h2 p S F G' H' σ E (st.step s so) (fin.mono s.gg)
theorem ds_if {b : Bool} (h : DT tt sl b) (h1 : b = true → DS t sl P) (h2 : b = false → DS u sl P) : DS (tIfS tt t u) sl P := ds_ifE (Pb := fun x => b = x) (h.e rfl) h1 h2
theorem ds_drop (h : DV te sl d) (k : P.nx sl) : DS (tDrop te) sl P := fun S F G H σ E st fin => h S G H σ st.e _ fun G' H' v s r => fin.nx G' H' _ _ s.gg (st.pure s) k
/-- xs.append(e) of a free list -/
theorem ds_app {i : Nat} (hi : sl[i]? = some (.ml xs)) (h : DV te sl d) (hz : xs.length < 1000000) (k : P.nx (sl.set i (.ml (xs ++ [d])))) : DS (tDrop (tBM K "list" rAppend (tVar i) (tCons te tNil))) sl P := fun S F G H σ E st fin => by
  obtain ⟨p, vs, e1, g0, s0, h0, r0⟩ := st.e.sls i _ hi
  refine ⟨_, e1, .inl ⟨rfl, _, SqL.of h0⟩, h S G H σ st.e _ fun G' H' v s r => ?_⟩
  obtain ⟨g1, h1⟩ := s.at g0 h0
  have r1 := r0.mono s.gg
  refine ⟨p, vs, v, rfl, rfl, h1, by rw [r1.length, sizeLine_eq]; omega, ?_⟩
  exact fin.nx G' _ _ _ s.gg ((st.pure s).mut (y := .ml (xs ++ [d])) hi rfl e1 rfl ⟨p, _, rfl, g1, s0, upd_same, r1.app (.cons r .nil)⟩) k
/-- d[k] = v of a free dict -/
theorem ds_dput {i : Nat} {k : Int} (hi : sl[i]? = some (.md ks)) (h : DV te sl d) (hk : DV tb sl (.int k)) (hz : ks.length < 1000000) (q : P.nx (sl.set i (.md (putD ks k d)))) : DS (sDPut (tVar i) tb te) sl P := fun S F G H σ E st fin => by
  obtain ⟨p, vs, e1, g0, s0, h0, r0⟩ := st.e.sls i _ hi
  refine h S G H σ st.e _ fun G1 H1 v s1 rv => ⟨_, e1, hk S G1 H1 σ (st.e.pure s1) _ fun G2 H2 y s2 rk => ?_⟩
  cases rk
  obtain ⟨g1, h1⟩ := s1.at g0 h0
  obtain ⟨g2, h2⟩ := s2.at g1 h1
  have r2 := r0.mono (s1.gg.tr s2.gg)
  refine ⟨p, _, rfl, DPut.k (k := Sum.inl k) h2 (by rw [r2.length, sizeLine_eq]; omega), ?_⟩
  exact fin.nx G2 _ _ _ (s1.gg.tr s2.gg) (((st.pure s1).pure s2).mut (y := .md (putD ks k d)) hi rfl e1 rfl ⟨p, _, rfl, g2, s0, upd_same, r2.put (rv.mono s2.gg)⟩) q
/-- xs[k] = e of a free list -/
theorem ds_setLE {i : Nat} {k : Int} {j : Nat} {Pd : D → Prop} (hi : sl[i]? = some (.ml xs)) (h : DE te sl Pd) (hk : DV tb sl (.int k)) (hj : ixN xs.length k = some j) (q : ∀ d, Pd d → P.nx (sl.set i (.ml (xs.set j d)))) :
    DS (tAsg te (gSub (tVar i) tb rSetL)) sl P := fun S F G H σ E st fin => by
  obtain ⟨p, vs, e1, g0, s0, h0, r0⟩ := st.e.sls i _ hi
  refine h S G H σ st.e _ fun G1 H1 v d s1 so rv pd => ⟨_, e1, hk S G1 H1 σ (st.e.step s1 so) _ fun G2 H2 y s2 rk => ?_⟩
  cases rk
  obtain ⟨g1, o', h1', k1⟩ := s1.fr p _ g0 h0
  have h1 : H1 p = some (.lst vs) := by rw [h1', k1 s0]
  obtain ⟨g2, h2⟩ := s2.at g1 h1
  have r2 := r0.mono (s1.gg.tr s2.gg)
  refine ⟨p, vs, k, j, rfl, rfl, h2, by rw [r2.length]; exact hj, ?_⟩
  exact fin.nx G2 _ _ _ (s1.gg.tr s2.gg) (((st.step s1 so).pure s2).mut (y := .ml (xs.set j d)) hi rfl e1 rfl ⟨p, _, rfl, g2, s0, upd_same, RpA.set (rv.mono s2.gg) j r2⟩) (q d pd)
/-- a free list, dict, is frozen here -/
theorem ds_frz (i : Nat) (hi : sl[i]? = some (.ml xs)) (h : DS t (sl.set i (.d (.lst xs))) P) : DS t sl P := fun S F G H σ E st fin => by
  obtain ⟨p, vs, e1, g0, s0, h0, r0⟩ := st.e.sls i _ hi
  exact h S F _ H σ E (st.frz hi rfl e1 h0 (.lst upd_same (r0.mono (Ex.new g0)))) (fin.mono (Ex.new g0))
theorem ds_frzM (i : Nat) (hi : sl[i]? = some (.md ks)) (h : DS t (sl.set i (.d (.dic ks))) P) : DS t sl P := fun S F G H σ E st fin => by
  obtain ⟨p, vs, e1, g0, s0, h0, r0⟩ := st.e.sls i _ hi
  exact h S F _ H σ E (st.frz hi rfl e1 h0 (.dic (.inl upd_same) (r0.mono (Ex.new g0)))) (fin.mono (Ex.new g0))
/-- what no longer matters is forgotten -/
theorem StS.un1 {S : Option Addr} {F G H : Hp} {σ : L2.St} (h : StS S F G H σ sl) {i : Nat} : StS S F G H σ (sl.set i .un) := by
  have hl : ∀ j x, (sl.set i .un)[j]? = some x → x = Sl.un ∨ sl[j]? = some x := fun j x e => by
    by_cases hj : i = j
    · subst hj
      by_cases hi : i < sl.length
      · rw [List.getElem?_set_self hi] at e
        cases e
        exact .inl rfl
      · rw [List.getElem?_eq_none (by rw [List.length_set]; omega)] at e
        cases e
    · rw [List.getElem?_set_ne hj] at e
      exact .inr e
  refine ⟨⟨h.e.gh, by rw [List.length_set, h.e.len], fun j x e => ?_, h.e.src, fun a b y z p e1 e2 o1 o2 e3 e4 => ?_⟩, h.pr, fun j p x e o ep => ?_⟩
  · rcases hl j x e with rfl | e
    · trivial
    · exact h.e.sls j x e
  · rcases hl a y e1 with rfl | f1
    · cases o1
    · rcases hl b z e2 with rfl | f2
      · cases o2
      · exact h.e.ap a b y z p f1 f2 o1 o2 e3 e4
  · rcases hl j x e with rfl | f
    · cases o
    · exact h.own j p x f o ep
theorem ds_un (i : Nat) (h : DS t (sl.set i .un) P) : DS t sl P := fun S F G H σ E st fin => h S F G H σ E st.un1 fin
theorem ds_mono {P' : Post} (h : DS t sl P) (h1 : ∀ s, P.nx s → P'.nx s) (h2 : ∀ d, P.rt d → P'.rt d) (h3 : ∀ s, P.bk s → P'.bk s) (h4 : ∀ s, P.ct s → P'.ct s) (h5 : ∀ s, P.rm s → P'.rm s) : DS t sl P' := fun S F G H σ E st fin =>
  h S F G H σ E st ⟨fun G' H' σ' s e st p => fin.nx G' H' σ' s e st (h1 s p), fun G' H' v d e gh pr so r p => fin.rt G' H' v d e gh pr so r (h2 d p), fun G' H' σ' s e st p => fin.bk G' H' σ' s e st (h3 s p), fun G' H' σ' s e st p => fin.ct G' H' σ' s e st (h4 s p), fun G' H' p k ks e a b c d e' f g q => fin.rm G' H' p k ks e a b c d e' f g (h5 ks q)⟩

/-! a, b = x, y -/
theorem ds_par {i j : Nat} {d1 d2 : D} (h : DA tr sl [d1, d2]) (k : P.nx ((sl.set i (.d d1)).set j (.d d2))) : DS (tPar i j tr) sl P := fun S F G H σ E st fin => h S G H σ st.e _ fun G' H' vs s r => by
  cases r with
  | cons a b =>
    cases b with
    | cons c e =>
      cases e
      exact ⟨_, _, rfl, fin.nx G' H' _ _ s.gg (((st.pure s).set1 a).set1 c) k⟩
theorem ds_par3 {i j l : Nat} {d1 d2 d3 : D} (h : DA tr sl [d1, d2, d3]) (k : P.nx (((sl.set i (.d d1)).set j (.d d2)).set l (.d d3))) : DS (tPar3 i j l tr) sl P := fun S F G H σ E st fin => h S G H σ st.e _ fun G' H' vs s r => by
  cases r with
  | cons a b =>
    cases b with
    | cons c e =>
      cases e with
      | cons x y =>
        cases y
        exact ⟨_, _, _, rfl, fin.nx G' H' _ _ s.gg ((((st.pure s).set1 a).set1 c).set1 x) k⟩
/-- the second a new list -/
theorem ds_parEL {i j : Nat} {Pd : D → Prop} (h1 : DE ta sl Pd) (h2 : DL tb sl xs) (k : ∀ d, Pd d → P.nx ((sl.set i (.d d)).set j (.ml xs))) : DS (tPar i j (tCons ta (tCons tb tNil))) sl P := fun S F G H σ E st fin =>
  h1 S G H σ st.e _ fun G1 H1 v d s1 so r1 pd => h2 S G1 H1 σ (st.e.step s1 so) _ fun G2 H2 p vs s2 hp gp e2 r2 => by
    refine ⟨_, _, rfl, fin.nx G2 H2 _ _ (s1.gg.tr s2.gg) ?_ (k d pd)⟩
    have a := (st.step s1 so).set1 (i := i) r1
    exact a.setNew s2 rfl hp (x := .ml xs) ⟨p, vs, rfl, gp, src_ne so hp, e2, r2⟩
/-- the second a new dict -/
theorem ds_parM {i j : Nat} (h1 : DV ta sl d) (h2 : DM tb sl ks) (k : P.nx ((sl.set i (.d d)).set j (.md ks))) : DS (tPar i j (tCons ta (tCons tb tNil))) sl P := fun S F G H σ E st fin =>
  h1 S G H σ st.e _ fun G1 H1 v s1 r1 => h2 S G1 H1 σ (st.e.pure s1) _ fun G2 H2 p vs s2 hp gp e2 r2 => by
    refine ⟨_, _, rfl, fin.nx G2 H2 _ _ (s1.gg.tr s2.gg) ?_ k⟩
    have a := (st.pure s1).set1 (i := i) r1
    exact a.setNew s2 rfl hp (x := .md ks) ⟨p, vs, rfl, gp, src_ne (st.e.src.pure s1) hp, e2, r2⟩
/-- the first a new list -/
theorem ds_parL {i j : Nat} (h1 : DL ta sl xs) (h2 : DV tb sl d) (k : P.nx ((sl.set i (.ml xs)).set j (.d d))) : DS (tPar i j (tCons ta (tCons tb tNil))) sl P := fun S F G H σ E st fin =>
  h1 S G H σ st.e _ fun G1 H1 p vs s1 hp gp e1 r1 => h2 S G1 H1 σ (st.e.pure s1) _ fun G2 H2 v s2 r2 => by
    refine ⟨_, _, rfl, fin.nx G2 H2 _ _ (s1.gg.tr s2.gg) ?_ k⟩
    have a := st.setNew (i := i) s1 rfl hp (x := .ml xs) ⟨p, vs, rfl, gp, src_ne st.e.src hp, e1, r1⟩
    exact (a.pure s2).set1 r2
/-- the second and third new lists -/
theorem ds_par3LL {i j l : Nat} {ys : List D} (h1 : DV ta sl d) (h2 : DL tb sl xs) (h3 : DL tc sl ys) (k : P.nx (((sl.set i (.d d)).set j (.ml xs)).set l (.ml ys))) : DS (tPar3 i j l (tCons ta (tCons tb (tCons tc tNil)))) sl P := fun S F G H σ E st fin =>
  h1 S G H σ st.e _ fun G1 H1 v s1 r1 => h2 S G1 H1 σ (st.e.pure s1) _ fun G2 H2 p vs s2 hp gp e2 r2 => h3 S G2 H2 σ ((st.e.pure s1).pure s2) _ fun G3 H3 q ws s3 hq gq e3 r3 => by
    refine ⟨_, _, _, rfl, fin.nx G3 H3 _ _ ((s1.gg.tr s2.gg).tr s3.gg) ?_ k⟩
    have a := (st.pure s1).set1 (i := i) r1
    have b := a.setNew (i := j) s2 rfl hp (x := .ml xs) ⟨p, vs, rfl, gp, src_ne (st.e.src.pure s1) hp, e2, r2⟩
    exact b.setNew (i := l) s3 rfl hq (x := .ml ys) ⟨q, ws, rfl, gq, src_ne b.e.src hq, e3, r3⟩
/-- a, b = x, y by a tuple, the second a new list -/
theorem ds_tupEL {i j : Nat} {Pd : D → Prop} (h1 : DE ta sl Pd) (h2 : DL tb sl xs) (k : ∀ d, Pd d → P.nx ((sl.set i (.d d)).set j (.ml xs))) : DS (tAsg (tTup (tCons ta (tCons tb tNil))) (gTup K 2 (gCons (gName i) (gCons (gName j) gNil)))) sl P := fun S F G H σ E st fin =>
  h1 S G H σ st.e _ fun G1 H1 v d s1 so r1 pd => h2 S G1 H1 σ (st.e.step s1 so) _ fun G2 H2 p vs s2 hp gp e2 r2 => by
    refine ⟨by show 2 ≤ sizeLine; decide, fun T hT => ⟨T, _, rfl, SqT.of upd_same, rfl, _, _, rfl, _, _, rfl, rfl, ?_⟩⟩
    have a := (st.step s1 so).set1 (i := i) r1
    have b := a.setNew (i := j) s2 rfl hp (x := .ml xs) ⟨p, vs, rfl, gp, src_ne so hp, e2, r2⟩
    exact fin.nx G2 _ _ _ (s1.gg.tr s2.gg) (b.pure (Step.new0 s2.gh hT)) (k d pd)
/-- .., the first a new list -/
theorem ds_tupL {i j : Nat} (h1 : DL ta sl xs) (h2 : DV tb sl d) (k : P.nx ((sl.set i (.ml xs)).set j (.d d))) : DS (tAsg (tTup (tCons ta (tCons tb tNil))) (gTup K 2 (gCons (gName i) (gCons (gName j) gNil)))) sl P := fun S F G H σ E st fin =>
  h1 S G H σ st.e _ fun G1 H1 p vs s1 hp gp e1 r1 => h2 S G1 H1 σ (st.e.pure s1) _ fun G2 H2 v s2 r2 => by
    refine ⟨by show 2 ≤ sizeLine; decide, fun T hT => ⟨T, _, rfl, SqT.of upd_same, rfl, _, _, rfl, _, _, rfl, rfl, ?_⟩⟩
    have a := st.setNew (i := i) s1 rfl hp (x := .ml xs) ⟨p, vs, rfl, gp, src_ne st.e.src hp, e1, r1⟩
    exact fin.nx G2 _ _ _ (s1.gg.tr s2.gg) (((a.pure s2).set1 r2).pure (Step.new0 s2.gh hT)) k

/-! loops -/
theorem ds_for {α : Type} (xs : List α) (E : α → D) (us : α → List (Nat × D)) (I : Nat → List Sl → Prop) (hi : DIt wi sl (xs.map E)) (hg : ∀ x ∈ xs, DG g (E x) (us x)) (h0 : I 0 sl)
    (hs : ∀ i x s, xs[i]? = some x → I i s → DS t (setS s (us x)) { nx := I (i + 1), ct := I (i + 1), bk := P.nx, rt := P.rt, rm := P.rm }) (hd : ∀ s, I xs.length s → P.nx s) : DS (tFor wi g t) sl P := fun S F G H σ En st fin =>
  hi S G H σ st.e _ fun G1 H1 J s1 w1 => by
    have len : (xs.map E).length = xs.length := List.length_map ..
    refine ⟨fun i m σ2 H2 => m = xs.length - i ∧ i ≤ xs.length ∧ ∃ G2 s, Ex G1 G2 ∧ StS S F G2 H2 σ2 s ∧ I i s, ⟨xs.length, by omega, by omega, G1, sl, Ex.rfl' G1, st.pure s1, h0⟩, ?_⟩
    rintro i m σ2 H2 ⟨rfl, hi2, G2, s, e12, st2, inv⟩
    obtain ⟨wg, ws, wy⟩ := w1 G2 H2 e12 st2.e.gh
    rw [len] at wg ws
    by_cases hlt : i < xs.length
    · refine .inr ⟨wg i hlt, fun σ' H' => i + 1 ≤ xs.length ∧ ∃ G2 s, Ex G1 G2 ∧ StS S F G2 H' σ' s ∧ I (i + 1) s, fun σ' H' h' => ⟨xs.length - (i + 1), by omega, rfl, h'⟩, fun x H3 y => ?_⟩
      obtain ⟨G3, d, s3, ed, rd⟩ := wy i x H3 (by rw [len]; exact hlt) y
      have hx : xs[i]? = some xs[i] := List.getElem?_eq_getElem hlt
      rw [List.getElem?_map, hx] at ed
      cases ed
      refine hg _ (List.getElem_mem hlt) G3 H3 x _ _ s3.gh rd fun vals hv => ?_
      refine hs i _ s hx inv S F G3 H3 _ _ ((st2.pure s3).setV hv) ⟨fun G' H' σ' s' e a b => ⟨hlt, G', s', e12.tr (s3.gg.tr e), a, b⟩, fun G' H' v d e => ?_, fun G' H' σ' s' e a b => ?_, fun G' H' σ' s' e a b => ⟨hlt, G', s', e12.tr (s3.gg.tr e), a, b⟩, fun G' H' p k ks e => fin.rm G' H' p k ks (s1.gg.tr (e12.tr (s3.gg.tr e)))⟩
      · exact fin.rt G' H' v d (s1.gg.tr (e12.tr (s3.gg.tr e)))
      · exact fin.nx G' H' σ' s' (s1.gg.tr (e12.tr (s3.gg.tr e))) a b
    · have e : i = xs.length := by omega
      subst e
      exact .inl ⟨ws, fin.nx G2 H2 σ2 s (s1.gg.tr e12) st2 (hd s inv)⟩
theorem ds_while (I : Nat → List Sl → Prop) (m0 : Nat) (h0 : I m0 sl)
    (hs : ∀ m s, I m s → ∃ b, DT tt s b ∧ (b = true → DS t s { nx := fun s' => ∃ m', m' < m ∧ I m' s', ct := fun s' => ∃ m', m' < m ∧ I m' s', bk := P.nx, rt := P.rt, rm := P.rm }) ∧ (b = false → P.nx s)) : DS (tWhile tt t) sl P := fun S F G H σ En st fin => by
  refine ⟨fun m σ2 H2 => ∃ G2 s, Ex G G2 ∧ StS S F G2 H2 σ2 s ∧ I m s, ⟨m0, G, sl, Ex.rfl' G, st, h0⟩, ?_⟩
  rintro m σ2 H2 ⟨G2, s, e12, st2, inv⟩
  obtain ⟨b, hb, h1, h2⟩ := hs m s inv
  refine hb S G2 H2 σ2 st2.e _ fun G3 H3 s3 => ?_
  have st3 := st2.pure s3
  cases b with
  | true =>
    refine ⟨fun σ' H' => ∃ m', m' < m ∧ ∃ G2 s, Ex G G2 ∧ StS S F G2 H' σ' s ∧ I m' s, fun σ' H' h' => h', ?_⟩
    refine h1 rfl S F G3 H3 σ2 _ st3 ⟨fun G' H' σ' s' e a b => ?_, fun G' H' v d e => ?_, fun G' H' σ' s' e a b => ?_, fun G' H' σ' s' e a b => ?_, fun G' H' p k ks e => fin.rm G' H' p k ks (e12.tr (s3.gg.tr e))⟩
    · obtain ⟨m', hm, q⟩ := b
      exact ⟨m', hm, G', s', e12.tr (s3.gg.tr e), a, q⟩
    · exact fin.rt G' H' v d (e12.tr (s3.gg.tr e))
    · exact fin.nx G' H' σ' s' (e12.tr (s3.gg.tr e)) a b
    · obtain ⟨m', hm, q⟩ := b
      exact ⟨m', hm, G', s', e12.tr (s3.gg.tr e), a, q⟩
  | false => exact fin.nx G3 H3 σ2 s (e12.tr s3.gg) st3 (h2 rfl)
end

/-! ### what a def promises -/
/-- a def without draws: from data x to the data res x -/
def spF {α : Type} (enc : α → List D) (pre : α → Prop) (res : α → D) : Sp := fun vs H Q _ => ∃ G x, Ex G H ∧ RpA G vs (enc x) ∧ pre x ∧ ∀ G' H' v, Step none G H G' H' → Rp G' v (res x) → Q v H'
/-- a def that draws from the source, its first argument -/
def spS {α : Type} (enc : α → List D) (pre : α → Prop) (res : α → D → Prop) : Sp := fun vs H Q _ => ∃ G a ws x, vs = .ref a :: ws ∧ Ex G H ∧ SrcAt G H a ∧ RpA G ws (enc x) ∧ pre x ∧ ∀ G' H' v d, Step (some a) G H G' H' → SrcAt G' H' a → Rp G' v d → res x d → Q v H'
section
variable {α : Type} {enc : α → List D} {pre : α → Prop} {res : α → D} {resS : α → D → Prop} {sl : List Sl} {tr : TA} {dvs : List V} {E : XK} {N : List Str} {vs : List V} {H : Hp} {Q : VK} {t : TS}
theorem dv_call {es ed : List D} (x : α) (h : DA tr sl es) (hx : es ++ ed = enc x) (hd : ∀ G : Hp, RpA G dvs ed) (hp : pre x) : DV (tCall (spF enc pre res) dvs E tr) sl (res x) := fun S G H σ st Q q =>
  h S G H σ st _ fun G1 H1 vs s1 r1 => ⟨G1, x, s1.gh, by rw [← hx]; exact r1.app (hd G1), hp, fun G2 H2 v s2 r2 => q G2 H2 v (s1.tr s2) r2⟩
theorem dv_call0 (x : α) (h : DA tr sl (enc x)) (hp : pre x) : DV (tCall (spF enc pre res) [] E tr) sl (res x) := dv_call (ed := []) x h (List.append_nil _) (fun _ => .nil) hp
theorem de_call {i : Nat} (x : α) (hi : sl[i]? = some .src) (h : DA tr sl (enc x)) (hp : pre x) : DE (tCall (spS enc pre resS) [] E (tCons (tVar i) tr)) sl (resS x) := fun S G H σ st Q q => by
  obtain ⟨a, ea, es⟩ := st.sls i _ hi
  subst ea
  refine ⟨_, es, h (some a) G H σ st _ fun G1 H1 vs s1 r1 => ?_⟩
  refine ⟨G1, a, vs, x, by rw [List.append_nil], s1.gh, (st.src.pure s1) a rfl, r1, hp, fun G2 H2 v d s2 so r2 p => ?_⟩
  exact q G2 H2 v d (s1.any.tr s2) (fun b eb => by cases eb; exact so) r2 p
/-- the slots at the entry -/
def inS (ds : List D) (n : Nat) : List Sl := ds.map Sl.d ++ List.replicate (n - ds.length) .un
def inSS (ds : List D) (n : Nat) : List Sl := .src :: (ds.map Sl.d ++ List.replicate (n - (ds.length + 1)) .un)
theorem sls_in {G : Hp} {S : Option Addr} {H : Hp} : ∀ {vs : List V} {ds : List D} {m : Nat}, RpA G vs ds → ∀ (i : Nat) (x : Sl), (ds.map Sl.d ++ List.replicate m .un)[i]? = some x → SlOk S G H ((vs.map some ++ List.replicate m none : L2.St)[i]?) x
  | _, _, m, .nil, i, x, e => by
    rw [List.map_nil, List.nil_append, List.getElem?_replicate] at e
    split at e
    · cases e
      trivial
    · cases e
  | _, _, m, .cons (v := v) a b, 0, x, e => by
    cases e
    exact ⟨v, rfl, a⟩
  | _, _, m, .cons a b, i + 1, x, e => sls_in b i x (by simpa using e)
theorem noown : ∀ {ds : List D} {m : Nat} {i : Nat} {x : Sl}, (ds.map Sl.d ++ List.replicate m .un)[i]? = some x → x.own = false
  | [], m, i, x, e => by
    rw [List.map_nil, List.nil_append, List.getElem?_replicate] at e
    split at e
    · cases e
      rfl
    · cases e
  | d :: ds, m, 0, x, e => by
    cases e
    rfl
  | d :: ds, m, i + 1, x, e => noown (ds := ds) (m := m) (i := i) (by simpa using e)
/-- a def's body, from its data -/
theorem body_ok (h : spF enc pre res vs H Q E) (hb : ∀ x, pre x → DS t (inS (enc x) N.length) { nx := fun _ => res x = .non, rt := fun d => d = res x }) : t { nx := fun _ H' => Q .non H', rt := Q } (start N vs) H := by
  obtain ⟨G, x, gh, r, hp, q⟩ := h
  have len := r.length
  have frame : ∀ {G' H' : Hp}, Ex G G' → Ex G' H' → Prot none (fun a => if (G a).isNone = true then H a else none) G' H' → Step none G H G' H' := fun {G' H'} e1 e2 pr => ⟨e1, e2, fun a o h1 h2 => by
    have hf : (fun a => if (G a).isNone = true then H a else none) a = some o := by
      show (if (G a).isNone = true then H a else none) = some o
      rw [h1]
      exact h2
    exact ⟨pr.fg a o hf, pr.fh a o hf⟩⟩
  refine hb x hp none (fun a => if (G a).isNone = true then H a else none) G H (start N vs) _ ⟨⟨gh, ?_, fun i y e => ?_, fun a e => (nomatch e), fun i j y z p e1 e2 o1 => ?_⟩, ⟨fun a o e => ?_, fun a o e => ?_⟩, fun i p y e o => ?_⟩
    ⟨fun G' H' σ' s e a b => q G' H' _ (frame e a.e.gh a.pr) (by rw [show res x = .non from b]; exact .non), fun G' H' v d e gh' pr so rd p => q G' H' v (frame e gh' pr) (by rw [← show d = res x from p]; exact rd), fun _ _ _ _ _ _ b => False.elim b, fun _ _ _ _ _ _ b => False.elim b, fun _ _ _ _ _ _ _ _ _ _ _ _ _ b => False.elim b⟩
  · unfold L2.start inS
    rw [List.length_append, List.length_append, List.length_map, List.length_map, List.length_replicate, List.length_replicate, len]
  · unfold L2.start
    rw [len]
    exact sls_in r i y e
  · rw [noown e1] at o1
    cases o1
  · have e' : (if (G a).isNone = true then H a else none) = some o := e
    split at e'
    · rename_i hn
      simpa using hn
    · cases e'
  · have e' : (if (G a).isNone = true then H a else none) = some o := e
    split at e'
    · exact ⟨o, e', fun _ => rfl⟩
    · cases e'
  · rw [noown e] at o
    cases o
theorem ds_retM {i : Nat} {P : Post} {ks : List (Int × D)} (hi : sl[i]? = some (.md ks)) (h : P.rm ks) : DS (tRet (tVar i)) sl P := fun S F G H σ En st fin => by
  obtain ⟨p, kvs, e1, g0, s0, h0, r0⟩ := st.e.sls i _ hi
  exact ⟨_, e1, fin.rm G H p kvs ks (Ex.rfl' G) st.e.gh st.pr st.e.src (st.own i p _ hi rfl e1) g0 h0 r0 h⟩
/-- a def that hands back a new dict or None -/
def spM {α : Type} (enc : α → List D) (pre : α → Prop) (res : α → Option (List (Int × D))) : Sp := fun vs H Q _ => ∃ G x, Ex G H ∧ RpA G vs (enc x) ∧ pre x ∧
  (res x = none → ∀ G' H', Step none G H G' H' → Q .non H') ∧ (∀ ks, res x = some ks → ∀ G' H' p kvs, Step none G H G' H' → H p = none → G' p = none → H' p = some (.dK kvs) → RpK G' kvs ks → Q (.ref p) H')
theorem body_okM {resM : α → Option (List (Int × D))} (h : spM enc pre resM vs H Q E) (hb : ∀ x, pre x → DS t (inS (enc x) N.length) { nx := fun _ => False, rt := fun d => d = .non ∧ resM x = none, rm := fun ks => resM x = some ks }) : t { nx := fun _ H' => Q .non H', rt := Q } (start N vs) H := by
  obtain ⟨G, x, gh, r, hp, q1, q2⟩ := h
  have len := r.length
  have frame : ∀ {G' H' : Hp}, Ex G G' → Ex G' H' → Prot none (fun a => if (G a).isNone = true then H a else none) G' H' → Step none G H G' H' := fun {G' H'} e1 e2 pr => ⟨e1, e2, fun a o h1 h2 => by
    have hf : (fun a => if (G a).isNone = true then H a else none) a = some o := by
      show (if (G a).isNone = true then H a else none) = some o
      rw [h1]
      exact h2
    exact ⟨pr.fg a o hf, pr.fh a o hf⟩⟩
  refine hb x hp none (fun a => if (G a).isNone = true then H a else none) G H (L2.start N vs) _ ⟨⟨gh, ?_, fun i y e => ?_, fun a e => (nomatch e), fun i j y z p e1 e2 o1 => ?_⟩, ⟨fun a o e => ?_, fun a o e => ?_⟩, fun i p y e o => ?_⟩
    ⟨fun _ _ _ _ _ _ b => False.elim b, fun G' H' v d e gh' pr so rd p => ?_, fun _ _ _ _ _ _ b => False.elim b, fun _ _ _ _ _ _ b => False.elim b, fun G' H' p k ks e gh' pr so fp gp hp' rk b => ?_⟩
  · unfold L2.start inS
    rw [List.length_append, List.length_append, List.length_map, List.length_map, List.length_replicate, List.length_replicate, len]
  · unfold L2.start
    rw [len]
    exact sls_in r i y e
  · rw [noown e1] at o1
    cases o1
  · have e' : (if (G a).isNone = true then H a else none) = some o := e
    split at e'
    · rename_i hn
      simpa using hn
    · cases e'
  · have e' : (if (G a).isNone = true then H a else none) = some o := e
    split at e'
    · exact ⟨o, e', fun _ => rfl⟩
    · cases e'
  · rw [noown e] at o
    cases o
  · obtain ⟨ed, en⟩ := p
    subst ed
    cases rd
    exact q1 en G' H' (frame e gh' pr)
  · have gp0 : G p = none := by
      cases z : G p with
      | none => rfl
      | some u =>
        rw [e p u z] at gp
        cases gp
    have hp0 : H p = none := by
      have z : (if (G p).isNone = true then H p else none) = none := fp
      rw [gp0] at z
      exact z
    exact q2 ks b G' H' p k (frame e gh' pr) hp0 gp hp' rk
theorem body_okS {resS : α → D → Prop} (h : spS enc pre resS vs H Q E) (hb : ∀ x, pre x → DS t (inSS (enc x) N.length) { nx := fun _ => resS x .non, rt := resS x }) : t { nx := fun _ H' => Q .non H', rt := Q } (start N vs) H := by
  obtain ⟨G, a0, ws, x, rfl, gh, sa, r, hp, q⟩ := h
  have len := r.length
  have frame : ∀ {G' H' : Hp}, Ex G G' → Ex G' H' → Prot (some a0) (fun a => if (G a).isNone = true then H a else none) G' H' → Step (some a0) G H G' H' := fun {G' H'} e1 e2 pr => ⟨e1, e2, fun a o h1 h2 => by
    have hf : (fun a => if (G a).isNone = true then H a else none) a = some o := by
      show (if (G a).isNone = true then H a else none) = some o
      rw [h1]
      exact h2
    exact ⟨pr.fg a o hf, pr.fh a o hf⟩⟩
  have no : ∀ {i : Nat} {y : Sl}, (inSS (enc x) N.length)[i]? = some y → y.own = false := fun {i y} e => by
    cases i with
    | zero =>
      cases e
      rfl
    | succ i => exact noown (by simpa [inSS] using e)
  refine hb x hp (some a0) (fun a => if (G a).isNone = true then H a else none) G H (start N _) _ ⟨⟨gh, ?_, fun i y e => ?_, fun a e => ?_, fun i j y z p e1 e2 o1 => ?_⟩, ⟨fun a o e => ?_, fun a o e => ?_⟩, fun i p y e o => ?_⟩
    ⟨fun G' H' σ' s e a b => q G' H' _ .non (frame e a.e.gh a.pr) (a.e.src a0 rfl) .non b, fun G' H' v d e gh' pr so rd p => q G' H' v d (frame e gh' pr) (so a0 rfl) rd p, fun _ _ _ _ _ _ b => False.elim b, fun _ _ _ _ _ _ b => False.elim b, fun _ _ _ _ _ _ _ _ _ _ _ _ _ b => False.elim b⟩
  · unfold L2.start inSS
    simp only [List.length_append, List.length_cons, List.length_map, List.length_replicate, len]
    omega
  · cases i with
    | zero =>
      cases e
      exact ⟨a0, rfl, rfl⟩
    | succ i =>
      have e' : ((enc x).map Sl.d ++ List.replicate (N.length - ((enc x).length + 1)) .un)[i]? = some y := by simpa [inSS] using e
      have k := sls_in (S := some a0) (H := H) r i y e'
      unfold L2.start
      rw [List.length_cons, len]
      simpa using k
  · cases e
    exact sa
  · rw [no e1] at o1
    cases o1
  · have e' : (if (G a).isNone = true then H a else none) = some o := e
    split at e'
    · rename_i hn
      simpa using hn
    · cases e'
  · have e' : (if (G a).isNone = true then H a else none) = some o := e
    split at e'
    · exact ⟨o, e', fun _ => rfl⟩
    · cases e'
  · rw [no e] at o
    cases o
theorem spF_len {n : Nat} (hn : ∀ x, (enc x).length = n) {vs : List V} {H : Hp} {Q : VK} {E : XK} (h : spF enc pre res vs H Q E) : vs.length = n := by
  obtain ⟨G, x, _, r, _⟩ := h
  rw [r.length, hn]
theorem spS_len {n : Nat} (hn : ∀ x, (enc x).length = n) {vs : List V} {H : Hp} {Q : VK} {E : XK} (h : spS enc pre resS vs H Q E) : vs.length = n + 1 := by
  obtain ⟨G, a, ws, x, rfl, _, _, r, _⟩ := h
  rw [List.length_cons, r.length, hn]
end
end Wa
set_option maxHeartbeats 4000000
/-! Sorted sets, isinstance, repr, index, slices, a walk over a dict, draws in expressions. -/
namespace Wa
open PySem PySem.Spec PyProof.Rows L2

/-! ### sorted(set(..)) -/
def insU (k : Int) : List Int → List Int
  | [] => [k]
  | x :: r => if k < x then k :: x :: r else if k = x then x :: r else x :: insU k r
def sortU (ns : List Int) : List Int := ns.foldr insU []
theorem mem_insU {k j : Int} : ∀ {xs : List Int}, j ∈ insU k xs ↔ j = k ∨ j ∈ xs
  | [] => by simp [insU]
  | x :: r => by
    unfold insU
    split
    · simp
    · split
      · rename_i h
        subst h
        simp
      · rw [List.mem_cons, mem_insU, List.mem_cons]
        constructor
        · rintro (h | h | h)
          · exact .inr (.inl h)
          · exact .inl h
          · exact .inr (.inr h)
        · rintro (h | h | h)
          · exact .inr (.inl h)
          · exact .inl h
          · exact .inr (.inr h)
theorem insU_sorted {k : Int} : ∀ {xs : List Int}, xs.Pairwise (· < ·) → (insU k xs).Pairwise (· < ·)
  | [], _ => by simp [insU]
  | x :: r, h => by
    obtain ⟨h1, h2⟩ := List.pairwise_cons.mp h
    unfold insU
    split
    · rename_i hk
      refine List.pairwise_cons.mpr ⟨fun y hy => ?_, h⟩
      rcases List.mem_cons.mp hy with e | hy
      · omega
      · have := h1 y hy
        omega
    · split
      · exact h
      · rename_i n1 n2
        refine List.pairwise_cons.mpr ⟨fun y hy => ?_, insU_sorted h2⟩
        rcases mem_insU.mp hy with e | hy
        · omega
        · exact h1 y hy
theorem mem_sortU {j : Int} : ∀ {xs : List Int}, j ∈ sortU xs ↔ j ∈ xs
  | [] => by simp [sortU]
  | x :: r => by
    show j ∈ insU x (sortU r) ↔ _
    rw [mem_insU, mem_sortU, List.mem_cons]
theorem sortU_sorted : ∀ xs : List Int, (sortU xs).Pairwise (· < ·)
  | [] => List.Pairwise.nil
  | x :: r => insU_sorted (sortU_sorted r)
theorem sorted_same : ∀ {xs ys : List Int}, xs.Pairwise (· < ·) → ys.Pairwise (· < ·) → (∀ k, k ∈ xs ↔ k ∈ ys) → xs = ys
  | [], [], _, _, _ => rfl
  | [], y :: ys, _, _, h => absurd ((h y).mpr List.mem_cons_self) List.not_mem_nil
  | x :: xs, [], _, _, h => absurd ((h x).mp List.mem_cons_self) List.not_mem_nil
  | x :: xs, y :: ys, hx, hy, h => by
    obtain ⟨a1, a2⟩ := List.pairwise_cons.mp hx
    obtain ⟨b1, b2⟩ := List.pairwise_cons.mp hy
    have e : x = y := by
      rcases List.mem_cons.mp ((h x).mp List.mem_cons_self) with e | m1
      · exact e
      · rcases List.mem_cons.mp ((h y).mpr List.mem_cons_self) with e | m2
        · exact e.symm
        · have := b1 x m1
          have := a1 y m2
          omega
    subst e
    rw [sorted_same a2 b2 fun k => ?_]
    constructor
    · intro m
      rcases List.mem_cons.mp ((h k).mp (List.mem_cons_of_mem _ m)) with e | m2
      · have := a1 k m
        omega
      · exact m2
    · intro m
      rcases List.mem_cons.mp ((h k).mpr (List.mem_cons_of_mem _ m)) with e | m2
      · have := b1 k m
        omega
      · exact m2
section
variable {sl : List Sl} {P : Post} {te ta tb tl : TE} {tt : TT} {tr : TA} {d e : D} {xs ds : List D} {ks : List (Int × D)} {K : PySem.W.Frag} {w : World}
theorem dl_sortset {ns : List Int} (h : DA tr sl [.lst (ns.map D.int)]) (hl : ns.length ≤ 60) : DL (tCB (rSortedSet w) (tCons (tCB (rSetL' K w) tr) tNil)) sl ((sortU ns).map D.int) := fun S G H σ st Q q =>
  h S G H σ st _ fun G1 H1 vs s1 r1 => by
    cases r1 with
    | cons a b =>
      cases b
      cases a with
      | lst h1 a1 =>
        have ev := a1.ints
        subst ev
        refine ⟨_, ns, rfl, .inl (.inl (s1.gh _ _ h1)), hl, fun p c hp hc => ⟨p, _, c, rfl, upd_same, by omega, fun ns' p' hs hm hn hp' => ?_⟩⟩
        have hp1 : H1 p' = none := by
          by_cases e : p' = p
          · rw [e, upd_same] at hp'
            cases hp'
          · rw [upd_ne e] at hp'
            exact hp'
        have e : ns' = sortU ns := sorted_same hs (sortU_sorted ns) fun k => by
          rw [hm k, mem_sortU]
          simp
        subst e
        have s2 := s1.tr ((Step.new0 (o := SetO w p (fun j => decide (j ∈ ns)) c) s1.gh hp).tr (Step.new0 (o := .lst ((sortU ns).map V.int)) (s1.gh.tr (Ex.new hp)) hp'))
        exact q G1 _ p' _ s2 (back_none s1 st.gh hp1) (ex_none s1.gh hp1) upd_same (RpA.of_ints _)
theorem RpK.keys {G : Hp} : ∀ {kv : List (Key × V)} {ds : List (Int × D)}, RpK G kv ds → kv.map (·.1) = (ds.map (·.1)).map Sum.inl
  | _, _, .nil => rfl
  | _, _, .cons a b => by
    rw [List.map_cons, List.map_cons, List.map_cons, RpK.keys b]
theorem cl_sortD (hs : (ks.map (·.1)).Pairwise (· < ·)) (hl : ks.length < 64) : CL (fun xs H Q => ∃ (a : Addr) (kvs : List (Key × V)) (ks : List Int), xs = [.ref a] ∧ Rd H a (.dK kvs) ∧ kvs.map (·.1) = ks.map Sum.inl ∧ ks.length < 64 ∧
    ∀ (ys : List Int) (p : Addr), ys.Perm ks → ys.Pairwise (· ≤ ·) → H p = none → Q (.ref p) (upd H p (.lst (ys.map V.int)))) [.dic ks] ((ks.map (·.1)).map D.int) := fun G H vs gh r Q q => by
  cases r with
  | cons a b =>
    cases b
    cases a with
    | dic h1 r1 =>
      refine ⟨_, _, ks.map (·.1), rfl, gh.rd h1, r1.keys, by rw [List.length_map]; exact hl, fun ys p hp ho hn => ?_⟩
      have hle : (ks.map (·.1)).Pairwise (· ≤ ·) := hs.imp fun h => Int.le_of_lt h
      have e : ys = ks.map (·.1) := hp.eq_of_pairwise (fun x y _ _ h1 h2 => Int.le_antisymm h1 h2) ho hle
      subst e
      exact q G _ p _ (Step.new0 gh hn) hn (ex_none gh hn) upd_same (RpA.of_ints _)

/-! isinstance -/
theorem dv_isInt {i : Int} (h : DV ta sl (.int i)) : DV (tCB (rIsi K) (tCons ta (tCons (tC (.ty "int")) tNil))) sl (.bl true) := fun S G H σ st Q q => h S G H σ st _ fun G1 H1 v s1 r1 => by
  cases r1
  exact ⟨_, _, _, _, true, rfl, .ty _, .base (.int i), kit_ty (by decide +kernel), q G1 H1 _ s1 (.bl _)⟩
theorem dv_isBool {i : Int} (h : DV ta sl (.int i)) : DV (tCB (rIsi K) (tCons ta (tCons (tC (.ty "bool")) tNil))) sl (.bl false) := fun S G H σ st Q q => h S G H σ st _ fun G1 H1 v s1 r1 => by
  cases r1
  exact ⟨_, _, _, _, false, rfl, .ty _, .base (.int i), kit_ty (by decide +kernel), q G1 H1 _ s1 (.bl _)⟩
theorem dv_isTup (h : DV ta sl d) (e : d.items = some ds) : DV (tCB (rIsi K) (tCons ta (tCons (tC (.ty "tuple")) tNil))) sl (.bl true) := fun S G H σ st Q q => h S G H σ st _ fun G1 H1 v s1 r1 => by
  obtain ⟨a, vs, rfl, h1, _⟩ := r1.items e
  refine ⟨_, _, .type "tuple", _, true, rfl, .ty _, ?_, kit_ty (by decide +kernel), q G1 H1 _ s1 (.bl _)⟩
  rcases s1.gh.rd h1 with h2 | ⟨o, h2⟩
  · exact .base (.tup h2)
  · exact .fTuple h2
/-- repr -/
theorem cv_repr (n : d.nd = true) (h1 : isDisplay d.py = true) (h2 : d.py.showable = true) (h3 : d.py.hasDict = false) (h4 : d.py.depth ≤ 60) (h5 : d.py.shown.length ≤ sizeLine) : CV (rRepr K) [d] (.str d.py.shown) := fun G H vs gh r Q q => by
  cases r with
  | cons a b =>
    cases b
    exact ⟨_, _, rfl, a.dp gh n, h1, h2, h3, h4, h5, q G H _ (Step.id gh) (.str _)⟩
/-- t.index(k) -/
theorem dv_tix {ns : List Int} {k : Int} (h : DV ta sl (.tuf (ns.map D.int))) (hk : DV tb sl (.int k)) (hm : k ∈ ns) : DV (tTix K ta tb) sl (.int (ns.idxOf k : Nat)) := fun S G H σ st Q q => h S G H σ st _ fun G1 H1 x s1 r1 => by
  cases r1 with
  | tuf h1 hd a1 =>
    have ev := a1.ints
    subst ev
    refine ⟨⟨_, _, _, rfl, s1.gh _ _ h1, hd⟩, hk S G1 H1 σ (st.pure s1) _ fun G2 H2 y s2 r2 => ?_⟩
    cases r2
    exact ⟨_, ns, k, rfl, rfl, .inl (.inr ⟨_, s2.gh _ _ (s2.gg _ _ h1)⟩), hm, q G2 H2 _ (s1.tr s2) (.int _)⟩
theorem dv_tupF (h : DA tr sl ds) (hl : ds.length ≤ 1000 := by decide) : DV (tTupF tr) sl (.tuf ds) := fun S G H σ st Q q =>
  h S G H σ st _ fun G1 H1 vs s1 r1 => ⟨by rw [r1.length, sizeLine_eq]; omega, fun p o hp hd => q _ _ _ (s1.tr (Step.new s1.gh hp)) (.tuf upd_same hd (r1.mono (Ex.new (ex_none s1.gh hp))))⟩
theorem dv_weak (h : DV te sl (.tuf ds)) : DV te sl (.tup ds) := fun S G H σ st Q q => h S G H σ st Q fun G1 H1 v s1 r1 => q G1 H1 v s1 r1.weak
/-- xs[i:] -/
theorem dl_from {i : Int} (h : DV te sl (.lst ds)) (hi : DV tl sl (.int i)) : DL (tSl (rSlL K) te (tPart tl) tNoPart) sl (ds.drop (HT.sIx ds.length 0 (some i))) := fun S G H σ st Q q => h S G H σ st _ fun G1 H1 x s1 r1 => hi S G1 H1 σ (st.pure s1) _ fun G2 H2 y s2 r2 => by
  cases r2
  cases r1 with
  | lst h1 a1 =>
    refine ⟨i, rfl, _, _, rfl, .inl (.inl (s2.gh _ _ (s2.gg _ _ h1))), fun p hp => q G2 _ p _ ((s1.tr s2).tr (Step.new0 s2.gh hp)) (back_none (s1.tr s2) st.gh hp) (ex_none s2.gh hp) upd_same ?_⟩
    unfold cutV
    rw [a1.length, show HT.sIx ds.length ds.length none = ds.length from rfl, List.take_of_length_le (by rw [List.length_drop, a1.length]; exact Nat.le_refl _)]
    exact (a1.drop _).mono s2.gg

/-! draws in expressions -/
theorem de_e {P Q : D → Prop} (h : DE te sl P) (k : ∀ d, P d → Q d) : DE te sl Q := fun S G H σ st R r => h S G H σ st R fun G' H' v d s so rd p => r G' H' v d s so rd (k d p)
/-- a value ahead of a draw, an operation on both -/
theorem de_op2 {r : R2} {P Q : D → Prop} (ha : DV ta sl d) (hb : DE tb sl P) (k : ∀ y, P y → ∃ f, OV r d y f ∧ Q f) : DE (tOp r ta tb) sl Q := fun S G H σ st R q => ha S G H σ st _ fun G1 H1 x s1 r1 => hb S G1 H1 σ (st.pure s1) _ fun G2 H2 v y s2 so r2 p => by
  obtain ⟨f, ho, hq⟩ := k y p
  exact ho G2 H2 x v s2.gh (r1.mono s2.gg) r2 R fun G3 H3 z s3 r3 => q G3 H3 z f ((s1.any.tr s2).tr s3.any) (so.pure s3) r3 hq
theorem de_op1 {r : R2} {P Q : D → Prop} (ha : DE ta sl P) (hb : DV tb sl d) (k : ∀ y, P y → ∃ f, OV r y d f ∧ Q f) : DE (tOp r ta tb) sl Q := fun S G H σ st R q => ha S G H σ st _ fun G1 H1 v y s1 so r1 p => hb S G1 H1 σ (st.step s1 so) _ fun G2 H2 x s2 r2 => by
  obtain ⟨f, ho, hq⟩ := k y p
  exact ho G2 H2 v x s2.gh (r1.mono s2.gg) r2 R fun G3 H3 z s3 r3 => q G3 H3 z f ((s1.tr s2.any).tr s3.any) ((so.pure s2).pure s3) r3 hq
/-- (value, draw) -/
theorem de_pair {P Q : D → Prop} (ha : DV ta sl d) (hb : DE tb sl P) (k : ∀ y, P y → Q (.tup [d, y])) : DE (tTup (tCons ta (tCons tb tNil))) sl Q := fun S G H σ st R q => ha S G H σ st _ fun G1 H1 x s1 r1 => hb S G1 H1 σ (st.pure s1) _ fun G2 H2 v y s2 so r2 p => by
  refine ⟨by show 2 ≤ sizeLine; decide, fun T hT => ?_⟩
  have s3 := Step.new (S := none) (o := .tup [x, v]) s2.gh hT
  exact q _ _ _ _ ((s1.any.tr s2).tr s3.any) (so.pure s3) (.tup (.inl upd_same) (.cons ((r1.mono s2.gg).mono s3.gg) (.cons (r2.mono s3.gg) .nil))) (k y p)
theorem de_cb {r : List V → Hp → VK → Prop} {P Q : D → Prop} (ha : DE ta sl P) (k : ∀ y, P y → ∃ f, CV r [y] f ∧ Q f) : DE (tCB r (tCons ta tNil)) sl Q := fun S G H σ st R q => ha S G H σ st _ fun G1 H1 v y s1 so r1 p => by
  obtain ⟨f, ho, hq⟩ := k y p
  exact ho G1 H1 _ s1.gh (.cons r1 .nil) R fun G2 H2 z s2 r2 => q G2 H2 z f (s1.tr s2.any) (so.pure s2) r2 hq
theorem dte_test {P : D → Prop} {Q : Bool → Prop} (h : DE te sl P) (k : ∀ d, P d → ∃ b, d = .bl b ∧ Q b) : DTE (tTest te) sl Q := fun S G H σ st R q => h S G H σ st _ fun G1 H1 v y s1 so r1 p => by
  obtain ⟨b, e, hq⟩ := k y p
  subst e
  cases r1
  exact ⟨b, rfl, q G1 H1 b s1 so hq⟩
theorem dte_B {P : D → Prop} {Q : Bool → Prop} (h : DE te sl P) (k : ∀ d, P d → ∃ b, d = .bl b ∧ Q b) : DTE (tB te) sl Q := fun S G H σ st R q => h S G H σ st _ fun G1 H1 v y s1 so r1 p => by
  obtain ⟨b, e, hq⟩ := k y p
  subst e
  cases r1
  exact ⟨b, rfl, q G1 H1 b s1 so hq⟩
theorem dte_not {P Q : Bool → Prop} (h : DTE tt sl P) (k : ∀ b, P b → Q (!b)) : DTE (tNot tt) sl Q := fun S G H σ st R q => h S G H σ st _ fun G1 H1 b s1 so p => q G1 H1 _ s1 so (k b p)
theorem dte_and {tu : TT} {a : Bool} {P Q : Bool → Prop} (h1 : DT tt sl a) (h2 : a = true → DTE tu sl P) (k1 : a = false → Q false) (k2 : a = true → ∀ b, P b → Q b) : DTE (tAnd tt tu) sl Q := fun S G H σ st R q => h1 S G H σ st _ fun G1 H1 s1 => by
  cases a with
  | true =>
    show tu σ H1 R
    exact h2 rfl S G1 H1 σ (st.pure s1) R fun G2 H2 b s2 so p => q G2 H2 b (s1.any.tr s2) so (k2 rfl b p)
  | false =>
    show R false H1
    exact q G1 H1 false s1.any (st.src.pure s1) (k1 rfl)
theorem dte_or {tu : TT} {a : Bool} {P Q : Bool → Prop} (h1 : DT tt sl a) (h2 : a = false → DTE tu sl P) (k1 : a = true → Q true) (k2 : a = false → ∀ b, P b → Q b) : DTE (tOr tt tu) sl Q := fun S G H σ st R q => h1 S G H σ st _ fun G1 H1 s1 => by
  cases a with
  | true =>
    show R true H1
    exact q G1 H1 true s1.any (st.src.pure s1) (k1 rfl)
  | false =>
    show tu σ H1 R
    exact h2 rfl S G1 H1 σ (st.pure s1) R fun G2 H2 b s2 so p => q G2 H2 b (s1.any.tr s2) so (k2 rfl b p)
/-- a comprehension whose turns may draw -/
theorem step_at {S : Option Addr} {G H G' H' : Hp} {p : Addr} {o : HO} (s : Step S G H G' H') (sp : S ≠ some p) (g : G p = none) (h : H p = some o) : G' p = none ∧ H' p = some o := by
  obtain ⟨g', o', e, k⟩ := s.fr p o g h
  exact ⟨g', by rw [e, k sp]⟩
theorem src_upd {S : Option Addr} {G H : Hp} {p : Addr} {o : HO} (so : SrcOk S G H) (sp : S ≠ some p) : SrcOk S G (upd H p o) := fun a ea => by
  have np : a ≠ p := fun e => sp (by rw [ea, e])
  obtain ⟨g, l, cs, x, y, z, q, r⟩ := so a ea
  exact ⟨g, l, cs, x, y, z, by rw [upd_ne np]; exact q, r⟩
theorem de_lc {α : Type} {wi : TI} {g : TG} {vs : List Nat} {Q : List D → Prop} (xs : List α) (E : α → D) (us : α → List (Nat × D)) (R : Nat → List D → Prop) (Pb : Nat → List D → Bool → Prop) (hi : DIt wi sl (xs.map E)) (hg : ∀ x ∈ xs, DG g (E x) (us x))
    (hu : ∀ x ∈ xs, ((us x).all fun u => vs.contains u.1) = true) (h0 : R 0 []) (ht : ∀ i x acc, xs[i]? = some x → R i acc → DTE tt (setS (wipeS sl vs) (us x)) (Pb i acc)) (hf : ∀ i acc, Pb i acc false → R i acc → R (i + 1) acc)
    (he : ∀ i x acc, xs[i]? = some x → R i acc → Pb i acc true → DE te (setS (wipeS sl vs) (us x)) (fun d => R (i + 1) (acc ++ [d]))) (hl : xs.length ≤ 1000000) (hq : ∀ acc, R xs.length acc → Q acc) :
    DE (tLc wi g tt te vs) sl (fun d => ∃ acc, d = .lst acc ∧ Q acc) := fun S G H σ st Qk q => hi S G H σ st _ fun G1 H1 J s1 w1 => by
  intro C hC
  have hC0 : H C = none := back_none s1 st.gh hC
  have sC : S ≠ some C := src_ne st.src hC0
  have len : (xs.map E).length = xs.length := List.length_map ..
  refine ⟨fun i m H2 => m = xs.length - i ∧ i ≤ xs.length ∧ ∃ G2 acc vacc, Step S G H G2 H2 ∧ SrcOk S G2 H2 ∧ Ex G1 G2 ∧ G2 C = none ∧ H2 C = some (.lst vacc) ∧ RpA G2 vacc acc ∧ acc.length ≤ i ∧ R i acc,
    ⟨xs.length, by omega, by omega, G1, [], [], s1.any.tr (Step.new0 s1.gh hC), src_upd (st.src.pure s1) sC, Ex.rfl' G1, ex_none s1.gh hC, upd_same, .nil, Nat.zero_le _, h0⟩, ?_⟩
  rintro i m H2 ⟨rfl, hi2, G2, acc, vacc, s2, so2, e12, gC, hA, rA, la, inv⟩
  obtain ⟨wg, ws, wy⟩ := w1 G2 H2 e12 s2.gh
  rw [len] at wg ws
  by_cases hlt : i < xs.length
  · refine .inr ⟨wg i hlt, fun H3 => i + 1 ≤ xs.length ∧ ∃ G2 acc vacc, Step S G H G2 H3 ∧ SrcOk S G2 H3 ∧ Ex G1 G2 ∧ G2 C = none ∧ H3 C = some (.lst vacc) ∧ RpA G2 vacc acc ∧ acc.length ≤ i + 1 ∧ R (i + 1) acc,
      fun H' h' => ⟨xs.length - (i + 1), by omega, rfl, h'⟩, fun x H3 y => ?_⟩
    obtain ⟨G3, d, s3, ed, rd⟩ := wy i x H3 (by rw [len]; exact hlt) y
    have hx : xs[i]? = some xs[i] := List.getElem?_eq_getElem hlt
    have hm : xs[i] ∈ xs := List.getElem_mem hlt
    rw [List.getElem?_map, hx] at ed
    cases ed
    have s03 := s2.tr s3.any
    have so3 := so2.pure s3
    obtain ⟨gC3, hC3⟩ := s3.at gC hA
    refine hg _ hm G3 H3 x _ _ s3.gh rd fun vals hv => ⟨wipe_setV (hv.ix (hu _ hm)), ?_⟩
    have st3 := ((st.step s03 so3).wipe (vs := vs)).setV hv
    refine ht i _ acc hx inv S G3 H3 _ st3 _ fun G4 H4 b s4 so4 pb => ?_
    obtain ⟨gC4, hC4⟩ := step_at s4 sC gC3 hC3
    cases b with
    | true =>
      show te _ H4 _
      refine he i _ acc hx inv pb S G4 H4 _ (st3.step s4 so4) _ fun G5 H5 y5 d5 s5 so5 r5 inv5 => ?_
      obtain ⟨gC5, hC5⟩ := step_at s5 sC gC4 hC4
      refine ⟨vacc, hC5, ?_, hlt, G5, acc ++ [d5], vacc ++ [y5], ((s03.tr s4).tr s5).mut hC0 gC5, src_upd so5 sC, e12.tr (s3.gg.tr (s4.gg.tr s5.gg)), gC5, upd_same, (rA.mono (s3.gg.tr (s4.gg.tr s5.gg))).app (.cons r5 .nil), by rw [List.length_append, List.length_singleton]; omega, inv5⟩
      rw [rA.length, sizeLine_eq]
      omega
    | false =>
      show _ ∧ _
      exact ⟨hlt, G4, acc, vacc, s03.tr s4, so4, e12.tr (s3.gg.tr s4.gg), gC4, hC4, rA.mono (s3.gg.tr s4.gg), by omega, hf i acc pb inv⟩
  · have e : i = xs.length := by omega
    subst e
    exact .inl ⟨ws, q _ H2 _ _ (s2.frz hC0 gC hA) (fun a ea => by
      have np : a ≠ C := fun e => sC (by rw [ea, e])
      obtain ⟨g, l, cs, x, y, z, q1, q2, r⟩ := so2 a ea
      exact ⟨by rw [upd_ne np]; exact g, l, cs, x, y, z, q1, Ex.new gC _ _ q2, r⟩) (.lst upd_same (rA.mono (Ex.new gC))) ⟨acc, rfl, hq acc inv⟩⟩
end
end Wa
set_option maxHeartbeats 4000000
/-! A walk over a dict's keys; a def that hands back a new dict or None. -/
namespace Wa
open PySem PySem.Spec PyProof.Rows L2
section
variable {sl : List Sl} {P : Post} {t : TS} {te ta tb tl : TE} {tr : TA} {d e : D} {xs ds : List D} {ks : List (Int × D)} {K : PySem.W.Frag}
theorem for_core {S : Option Addr} {F G1 H1 : Hp} {σ : L2.St} {En : Ends} {J : It} {g : TG} {α : Type} (xs : List α) (E : α → D) (us : α → List (Nat × D)) (I : Nat → List Sl → Prop) (w1 : IsW J G1 (xs.map E)) (st : StS S F G1 H1 σ sl) (fin : Fin S F G1 En P) (hg : ∀ x ∈ xs, DG g (E x) (us x)) (h0 : I 0 sl)
    (hs : ∀ i x s, xs[i]? = some x → I i s → DS t (setS s (us x)) { nx := I (i + 1), ct := I (i + 1), bk := P.nx, rt := P.rt, rm := P.rm }) (hd : ∀ s, I xs.length s → P.nx s) :
    ∃ W : Nat → Nat → L2.St → Hp → Prop, (∃ m, W 0 m σ H1) ∧ ∀ i m σ H, W i m σ H → (J.stop i H ∧ En.nx σ H) ∨ (J.go i H ∧ ∃ N : L2.St → Hp → Prop, (∀ σ' H', N σ' H' → ∃ m', m' < m ∧ W (i + 1) m' σ' H') ∧
      ∀ x H', J.yld i H x H' → g x σ H' fun σ2 H2 => t { En with nx := N, ct := N, bk := En.nx } σ2 H2) := by
  have len : (xs.map E).length = xs.length := List.length_map ..
  refine ⟨fun i m σ2 H2 => m = xs.length - i ∧ i ≤ xs.length ∧ ∃ G2 s, Ex G1 G2 ∧ StS S F G2 H2 σ2 s ∧ I i s, ⟨xs.length, by omega, by omega, G1, sl, Ex.rfl' G1, st, h0⟩, ?_⟩
  rintro i m σ2 H2 ⟨rfl, hi2, G2, s, e12, st2, inv⟩
  obtain ⟨wg, ws, wy⟩ := w1 G2 H2 e12 st2.e.gh
  rw [len] at wg ws
  by_cases hlt : i < xs.length
  · refine .inr ⟨wg i hlt, fun σ' H' => i + 1 ≤ xs.length ∧ ∃ G2 s, Ex G1 G2 ∧ StS S F G2 H' σ' s ∧ I (i + 1) s, fun σ' H' h' => ⟨xs.length - (i + 1), by omega, rfl, h'⟩, fun x H3 y => ?_⟩
    obtain ⟨G3, d, s3, ed, rd⟩ := wy i x H3 (by rw [len]; exact hlt) y
    have hx : xs[i]? = some xs[i] := List.getElem?_eq_getElem hlt
    rw [List.getElem?_map, hx] at ed
    cases ed
    refine hg _ (List.getElem_mem hlt) G3 H3 x _ _ s3.gh rd fun vals hv => ?_
    refine hs i _ s hx inv S F G3 H3 _ _ ((st2.pure s3).setV hv) ⟨fun G' H' σ' s' e a b => ⟨hlt, G', s', e12.tr (s3.gg.tr e), a, b⟩, fun G' H' v d e => ?_, fun G' H' σ' s' e a b => ?_, fun G' H' σ' s' e a b => ⟨hlt, G', s', e12.tr (s3.gg.tr e), a, b⟩, fun G' H' p k ks e => fin.rm G' H' p k ks (e12.tr (s3.gg.tr e))⟩
    · exact fin.rt G' H' v d (e12.tr (s3.gg.tr e))
    · exact fin.nx G' H' σ' s' (e12.tr (s3.gg.tr e)) a b
  · have e : i = xs.length := by omega
    subst e
    exact .inl ⟨ws, fin.nx G2 H2 σ2 s e12 st2 (hd s inv)⟩
/-- the lock is taken off -/
theorem Lk.unlock {G : Hp} {p : Addr} {o : Obj} {ks : List (Key × V)} (h : G p = some (.frz o (.dK ks))) : Lk G (upd G p (.dK ks)) := by
  refine ⟨fun a vs r => ?_, fun a o' vs r => ?_, fun a vs r => ?_, fun a k r => ?_⟩
  · by_cases n : a = p
    · subst n
      rcases r with r | ⟨o', r⟩ <;> (rw [h] at r; cases r)
    · rcases r with r | ⟨o', r⟩
      · exact .inl (by rw [upd_ne n]; exact r)
      · exact .inr ⟨o', by rw [upd_ne n]; exact r⟩
  · by_cases n : a = p
    · subst n
      rw [h] at r
      cases r
    · rw [upd_ne n]
      exact r
  · by_cases n : a = p
    · subst n
      rw [h] at r
      cases r
    · rw [upd_ne n]
      exact r
  · by_cases n : a = p
    · subst n
      rcases r with r | ⟨o', r⟩
      · rw [h] at r
        cases r
      · rw [h] at r
        cases r
        exact .inl upd_same
    · rcases r with r | ⟨o', r⟩
      · exact .inl (by rw [upd_ne n]; exact r)
      · exact .inr ⟨o', by rw [upd_ne n]; exact r⟩
theorem ex_both {G H : Hp} {p : Addr} {o : HO} (h : Ex G H) : Ex (upd G p o) (upd H p o) := fun a u e => by
  by_cases n : a = p
  · subst n
    rw [upd_same] at e ⊢
    exact e
  · rw [upd_ne n] at e ⊢
    exact h a u e
theorem Prot.unlock {S : Option Addr} {F G H : Hp} {p : Addr} {o : HO} (h : Prot S F G H) (fp : F p = none) : Prot S F (upd G p o) (upd H p o) := ⟨fun a u e => by
  have n : a ≠ p := fun q => by
    rw [q, fp] at e
    cases e
  rw [upd_ne n]
  exact h.fg a u e, fun a u e => by
  have n : a ≠ p := fun q => by
    rw [q, fp] at e
    cases e
  rw [upd_ne n]
  exact h.fh a u e⟩
theorem SrcOk.both {S : Option Addr} {G H : Hp} {p : Addr} {o : Obj} {ks : List (Key × V)} (h : SrcOk S G H) (sp : S ≠ some p) (hp : G p = some (.frz o (.dK ks))) : SrcOk S (upd G p (.dK ks)) (upd H p (.dK ks)) := fun a ea => by
  have n : a ≠ p := fun e => sp (by rw [ea, e])
  obtain ⟨g, l, cs, x, y, z, q1, q2, r⟩ := h a ea
  have nl : l ≠ p := fun e => by
    rw [e, hp] at q2
    cases q2
  exact ⟨by rw [upd_ne n]; exact g, l, cs, x, y, z, by rw [upd_ne n]; exact q1, by rw [upd_ne nl]; exact q2, r⟩
theorem StS.unlock {S : Option Addr} {F G H : Hp} {σ : L2.St} {s : List Sl} {p : Addr} {o : Obj} {ks : List (Key × V)} (h : StS S F G H σ s) (fp : F p = none) (sp : S ≠ some p) (hp : G p = some (.frz o (.dK ks))) : StS S F (upd G p (.dK ks)) (upd H p (.dK ks)) σ s := by
  have lk := Lk.unlock hp
  refine ⟨⟨ex_both h.e.gh, h.e.len, fun i x e => ?_, h.e.src.both sp hp, h.e.ap⟩, h.pr.unlock fp, h.own⟩
  have q := h.e.sls i x e
  cases x with
  | un => trivial
  | src => exact q
  | d x =>
    obtain ⟨v, e1, r⟩ := q
    exact ⟨v, e1, r.mv lk⟩
  | ml xs =>
    obtain ⟨p', vs, e1, g, s', h', r⟩ := q
    have n : p' ≠ p := fun e2 => by
      rw [e2, hp] at g
      cases g
    exact ⟨p', vs, e1, by rw [upd_ne n]; exact g, s', by rw [upd_ne n]; exact h', r.mv lk⟩
  | md xs =>
    obtain ⟨p', vs, e1, g, s', h', r⟩ := q
    have n : p' ≠ p := fun e2 => by
      rw [e2, hp] at g
      cases g
    exact ⟨p', vs, e1, by rw [upd_ne n]; exact g, s', by rw [upd_ne n]; exact h', r.mv lk⟩
/-- for k in d, d a free dict: within, d is read -/
theorem ds_forK {i j : Nat} (I : Nat → List Sl → Prop) (hi : sl[i]? = some (.md ks)) (h0 : I 0 (sl.set i (.d (.dic ks))))
    (hs : ∀ n k s, (ks.map (·.1))[n]? = some k → I n s → DS t (setS s [(j, .int k)]) { nx := I (n + 1), ct := I (n + 1), bk := P.nx, rt := P.rt, rm := P.rm }) (hd : ∀ s, I ks.length s → P.nx s)
    (hk : ∀ n s, I n s → s[i]? = some (.d (.dic ks))) : DS (tLock (tFor (iKeys (tVar i)) (gName j) t)) sl P := fun S F G H σ En st fin => by
  obtain ⟨p, kvs, e1, g0, s0, h0', r0⟩ := st.e.sls i _ hi
  have fp := st.own i p _ hi rfl e1
  refine ⟨p, .dK kvs, h0', trivial, fun od => ?_⟩
  have xg : Ex G (upd G p (.frz od (.dK kvs))) := Ex.new g0
  have lkx := xg.lk
  -- the state under the lock
  have st1 : StS S F (upd G p (.frz od (.dK kvs))) (upd H p (.frz od (.dK kvs))) σ (sl.set i (.d (.dic ks))) := by
    have a := (st.un1 (i := i))
    have gh1 : Ex (upd G p (.frz od (.dK kvs))) (upd H p (.frz od (.dK kvs))) := ex_both st.e.gh
    refine ⟨⟨gh1, by rw [List.length_set, st.e.len], fun m x e => ?_, fun a ea => ?_, fun a b y z q e1 e2 o1 o2 e3 e4 => ?_⟩, st.pr.unlock fp, fun m q x e o eq => ?_⟩
    · by_cases hm : i = m
      · subst hm
        have hl : i < sl.length := (List.getElem?_eq_some_iff.mp hi).1
        rw [List.getElem?_set_self hl] at e
        cases e
        exact ⟨_, e1, .dic (.inr ⟨od, upd_same⟩) (r0.mono xg)⟩
      · rw [List.getElem?_set_ne hm] at e
        have q := st.e.sls m x e
        cases x with
        | un => trivial
        | src => exact q
        | d x =>
          obtain ⟨v, e2, r⟩ := q
          exact ⟨v, e2, r.mono xg⟩
        | ml xs =>
          obtain ⟨p', vs, e2, g, s', h', r⟩ := q
          have n : p' ≠ p := fun z => hm (st.e.ap i m _ _ p hi e rfl rfl e1 (by rw [e2, z]))
          exact ⟨p', vs, e2, by rw [upd_ne n]; exact g, s', by rw [upd_ne n]; exact h', r.mono xg⟩
        | md xs =>
          obtain ⟨p', vs, e2, g, s', h', r⟩ := q
          have n : p' ≠ p := fun z => hm (st.e.ap i m _ _ p hi e rfl rfl e1 (by rw [e2, z]))
          exact ⟨p', vs, e2, by rw [upd_ne n]; exact g, s', by rw [upd_ne n]; exact h', r.mono xg⟩
    · have n : a ≠ p := fun e => s0 (by rw [ea, e])
      obtain ⟨g, l, cs, x, y, z, q1, q2, r⟩ := st.e.src a ea
      exact ⟨by rw [upd_ne n]; exact g, l, cs, x, y, z, by rw [upd_ne n]; exact q1, xg _ _ q2, r⟩
    · obtain ⟨_, f1⟩ := own_set (i := i) (x := .d (.dic ks)) rfl e1 o1
      obtain ⟨_, f2⟩ := own_set (i := i) (x := .d (.dic ks)) rfl e2 o2
      exact st.e.ap a b y z q f1 f2 o1 o2 e3 e4
    · obtain ⟨_, f1⟩ := own_set (i := i) (x := .d (.dic ks)) rfl e o
      exact st.own m q x f1 o eq
  have up : ∀ {G2 : Hp}, Ex (upd G p (.frz od (.dK kvs))) G2 → G2 p = some (.frz od (.dK kvs)) := fun e => e p _ upd_same
  have gup : ∀ {G2 : Hp}, Ex (upd G p (.frz od (.dK kvs))) G2 → Ex G (upd G2 p (.dK kvs)) := fun {G2} e a u ea => by
    have n : a ≠ p := fun z => by
      rw [z, g0] at ea
      cases ea
    rw [upd_ne n]
    exact e a u (by rw [upd_ne n]; exact ea)
  refine ⟨_, e1, p, od, rfl, .inl ⟨kvs, upd_same, ?_⟩⟩
  refine for_core (P := P) (ks.map (·.1)) D.int (fun k => [(j, .int k)]) I (fun G2 H2 e2 e3 => ?_) st1 ⟨fun G' H' σ' s' e a b => ⟨?_, ?_⟩, fun G' H' v d e gh' pr so r p' => ⟨?_, ?_⟩, fun G' H' σ' s' e a b => ⟨?_, ?_⟩, fun G' H' σ' s' e a b => ⟨?_, ?_⟩, fun G' H' p' k ks' e gh' pr so fp' gp hp' rk b => ⟨?_, ?_⟩⟩ (fun k _ => dg_name) h0 hs (fun s hs' => hd s (by rw [List.length_map] at hs'; exact hs'))
  · have hH : H2 p = some (.frz od (.dK kvs)) := e3 _ _ (up e2)
    have ln : ((ks.map (·.1)).map D.int).length = kvs.length := by rw [List.length_map, List.length_map, r0.length]
    rw [ln]
    refine ⟨fun n hn => ⟨hH, hn⟩, ⟨hH, Nat.le_refl _⟩, fun n x H3 hn y => ?_⟩
    obtain ⟨rfl, k, v, ek, rfl⟩ := y
    have kk := r0.keys
    have e5 : (kvs.map (·.1))[n]? = some k := by rw [List.getElem?_map, ek] <;> rfl
    rw [kk, List.getElem?_map] at e5
    obtain ⟨k', e6, e7⟩ := Option.map_eq_some_iff.mp e5
    subst e7
    refine ⟨G2, .int k', Step.id e3, ?_, .int _⟩
    rw [List.getElem?_map, e6]
    rfl
  · exact a.e.gh _ _ (up e)
  · exact fin.nx _ _ σ' s' (gup e) (a.unlock fp s0 (up e)) b
  · exact gh' _ _ (up e)
  · exact fin.rt _ _ v d (gup e) (ex_both gh') (pr.unlock fp) (so.both s0 (up e)) (r.mv (Lk.unlock (up e))) p'
  · exact a.e.gh _ _ (up e)
  · exact fin.bk _ _ σ' s' (gup e) (a.unlock fp s0 (up e)) b
  · exact a.e.gh _ _ (up e)
  · exact fin.ct _ _ σ' s' (gup e) (a.unlock fp s0 (up e)) b
  · exact gh' _ _ (up e)
  · have n : p' ≠ p := fun z => by
      rw [z, up e] at gp
      cases gp
    exact fin.rm _ _ p' k ks' (gup e) (ex_both gh') (pr.unlock fp) (so.both s0 (up e)) fp' (by rw [upd_ne n]; exact gp) (by rw [upd_ne n]; exact hp') (rk.mv (Lk.unlock (up e))) b
end

section
variable {α : Type} {enc : α → List D} {pre : α → Prop} {res : α → Option (List (Int × D))} {sl : List Sl} {tr : TA} {E : XK} {P : Post} {N : List Str} {vs : List V} {H : Hp} {Q : VK} {t : TS}
theorem ds_callM {i : Nat} (x : α) (h : DA tr sl (enc x)) (hp : pre x) (h1 : res x = none → P.nx (sl.set i (.d .non))) (h2 : ∀ ks, res x = some ks → P.nx (sl.set i (.md ks))) : DS (tAsg (tCall (spM enc pre res) [] E tr) (gName i)) sl P := fun S F G H σ En st fin =>
  h S G H σ st.e _ fun G1 H1 vs s1 r1 => by
    refine ⟨G1, x, s1.gh, by rw [List.append_nil]; exact r1, hp, fun hn G2 H2 s2 => ?_, fun ks hk G2 H2 p kvs s2 hp1 gp e r => ?_⟩
    · exact fin.nx G2 H2 _ _ (s1.gg.tr s2.gg) (((st.pure s1).pure s2).set1 .non) (h1 hn)
    · have s12 := s1.tr s2
      have hp0 := back_none s1 st.e.gh hp1
      exact fin.nx G2 H2 _ _ s12.gg (st.setNew (x := .md ks) s12 rfl hp0 ⟨p, kvs, rfl, gp, src_ne st.e.src hp0, e, r⟩) (h2 ks hk)
end
end Wa
set_option maxHeartbeats 4000000
/-! A def as its callers use it; the built-ins; tables as data; what the defs come to (the mirrors). -/
namespace Wa
open PySem PySem.Spec PyProof.Rows L2


/-! ### defs for their callers -/
def Def (P : Program) (w : World) (K : PySem.W.Frag) (mg : Str → Option Value) (base : Heap) (x : Str) (ps : List Str) (dvs : List V) (k : Nat) (sp : Sp) : Prop :=
  ∃ f fd ds, FnOk P w K mg base CX0 k f fd ps sp ∧ mg x = some (.ref f) ∧ PySem.W.keepIn K (.ref f) = true ∧ Binds K fd ps ds ∧ Vals dvs ds
def DefG (P : Program) (w : World) (K : PySem.W.Frag) (mg : Str → Option Value) (base : Heap) (x : Str) (ps : List Str) (k : Nat) (sp : Sp) : Prop :=
  ∃ f fd, FnG P w K mg base k f fd ps sp ∧ mg x = some (.ref f) ∧ PySem.W.keepIn K (.ref f) = true ∧ Binds K fd ps []
section
variable {X : Cx} {x : Str} {ps : List Str} {dvs : List V} {k : Nat} {sp : Sp} {e : Expr} {es : List Expr} {t : TA} {p pos : Pos}
theorem pe_def (D : Def X.prog X.w X.K X.mg X.base x ps dvs k sp) (hr : Room k X.A) (hg : Gl X x) (ha : PA X (e :: es) t) (hdb : (x == ("__debug__" : Str)) = false := by decide)
    (he : starEach (e :: es) X.env = (false, eval e X.env) :: starEach es X.env := by rfl) (hpl : (backTo pos (starEach es X.env)).any (·.1) = false := by rfl) :
    PE X (.Call (.Name x p) (e :: es) [] pos) (tCall sp dvs E0 t) := by
  obtain ⟨f, fd, ds, F, hm, hk, hb, hd⟩ := D
  exact pe_call F hr hg hm hk hb hd pass0 ha hdb he hpl
theorem pe_def0 (D : Def X.prog X.w X.K X.mg X.base x ps dvs k sp) (hr : Room k X.A) (hg : Gl X x) (hdb : (x == ("__debug__" : Str)) = false := by decide) : PE X (.Call (.Name x p) [] [] pos) (tCall sp dvs E0 tNil) := by
  obtain ⟨f, fd, ds, F, hm, hk, hb, hd⟩ := D
  exact pe_call0 F hr hg hm hk hb hd pass0 hdb
theorem pe_defG (D : DefG X.prog X.w X.K X.mg X.base x ps k sp) (hG : X.A.guards = some []) (hr : Room k X.A) (hg : Gl X x) (ha : PA X (e :: es) t) (hdb : (x == ("__debug__" : Str)) = false := by decide)
    (he : starEach (e :: es) X.env = (false, eval e X.env) :: starEach es X.env := by rfl) (hpl : (backTo pos (starEach es X.env)).any (·.1) = false := by rfl) :
    PE X (.Call (.Name x p) (e :: es) [] pos) (tCall sp [] E0 t) := by
  obtain ⟨f, fd, F, hm, hk, hb⟩ := D
  exact pe_callG F hG hr hg hm hk hb .nil ha hdb he hpl
end
structure Blt (mg : Str → Option Value) (tv : Value) : Prop where
  isinstance_ : mg "isinstance" = none
  int_ : mg "int" = none
  bool_ : mg "bool" = none
  tuple_ : mg "tuple" = none
  len_ : mg "len" = none
  range_ : mg "range" = none
  dict_ : mg "dict" = none
  sorted_ : mg "sorted" = none
  set_ : mg "set" = none
  all_ : mg "all" = none
  any_ : mg "any" = none
  sum_ : mg "sum" = none
  repr_ : mg "repr" = none
  enumerate_ : mg "enumerate" = none
  list_ : mg "list" = none
  TOP_ : mg "TOP" = some tv
  TOPr_ : RelV (.int 10000) tv
/-- a list or a tuple walked, whichever it is -/
theorem pi_or {X : Cx} {tg e : Expr} {w1 w2 : TI} (h1 : PI X tg e w1) (h2 : PI X tg e w2) : PI X tg e (fun σ H R => w1 σ H R ∨ w2 σ H R) := ⟨fun pins s σ H R I h => by
  rcases h with h | h
  · exact h1.run pins s σ H R I h
  · exact h2.run pins s σ H R I h⟩
theorem di_seq {K : PySem.W.Frag} {tl : TE} {sl : List Sl} {d : D} {ds : List D} (h : DV tl sl d) (e : d.seq = some ds) : DIt (fun σ H R => iList K tl σ H R ∨ iTup K tl σ H R) sl ds := fun S G H σ st R q => by
  cases d with
  | lst xs =>
    cases e
    exact .inl (di_list h S G H σ st R q)
  | tup xs =>
    cases e
    exact .inr (di_tup h rfl S G H σ st R q)
  | tuf xs =>
    cases e
    exact .inr (di_tup h rfl S G H σ st R q)
  | non => cases e
  | bl => cases e
  | int => cases e
  | str => cases e
  | dic => cases e

/-! ### the rules with their layout named (so that a comprehension's element does not lean on the frame) -/
def rLenK (K : PySem.W.Frag) : List V → Hp → VK → Prop := fun xs H Q => ∃ p ys, xs = [.ref p] ∧ (SqL K H p ys ∨ SqT K H p ys) ∧ Q (.int ys.length) H
def rTupK (K : PySem.W.Frag) : List V → Hp → VK → Prop := fun xs H Q => ∃ p ys, xs = [.ref p] ∧ ((SqL K H p ys ∧ ∀ l, H l = none → Q (.ref l) (upd H l (.tup ys))) ∨ (SqT K H p ys ∧ Q (.ref p) H))
def rListK (K : PySem.W.Frag) : List V → Hp → VK → Prop := fun xs H Q => ∃ p ys, xs = [.ref p] ∧ (SqL K H p ys ∨ SqT K H p ys) ∧ ∀ l, H l = none → Q (.ref l) (upd H l (.lst ys))
def rDictPK (K : PySem.W.Frag) : List V → Hp → VK → Prop := fun xs H Q => ∃ (a : Addr) (ps : List Addr) (kvs : List (Key × V)), xs = [.ref a] ∧ SqL K H a (ps.map V.ref) ∧ Paired (fun p kv => SqT K H p [kV kv.1, kv.2]) ps kvs ∧ ∀ p : Addr, H p = none → Q (.ref p) (upd H p (.dK (mergeK [] kvs)))
def rDictTK (K : PySem.W.Frag) : List V → Hp → VK → Prop := fun xs H Q => ∃ (a : Addr) (o : Obj) (ps : List Addr) (kvs : List (Key × V)), xs = [.ref a] ∧ H a = some (.frz o (.tup (ps.map V.ref))) ∧ o.dict = none ∧ Paired (fun p kv => SqT K H p [kV kv.1, kv.2]) ps kvs ∧ ∀ p : Addr, H p = none → Q (.ref p) (upd H p (.dK (mergeK [] kvs)))
def rIntK : List V → Hp → VK → Prop := fun xs H Q => (∃ i, xs = [V.int i] ∧ Q (V.int i) H) ∨ ∃ k, xs = [V.bl k] ∧ Q (V.int (if k then 1 else 0)) H
section
variable {X : Cx}
theorem op_inK (K : PySem.W.Frag) (h : X.K = K := by rfl) : OpR X (compareOp .In) (rIn K false) := h ▸ op_in_seq
theorem op_notInK (K : PySem.W.Frag) (h : X.K = K := by rfl) : OpR X (compareOp .NotIn) (rIn K true) := h ▸ op_notIn_seq
theorem ix_tupK (K : PySem.W.Frag) (h : X.K = K := by rfl) : IxR X (rIxT K) := h ▸ ix_tup
theorem ix_listK (K : PySem.W.Frag) (h : X.K = K := by rfl) : IxR X (rIxL K) := h ▸ ix_list
theorem call_lenK (K : PySem.W.Frag) (h : X.K = K := by rfl) : CallR X (.builtin "len") (rLenK K) := h ▸ call_len_seq
theorem call_tupleK (K : PySem.W.Frag) (h : X.K = K := by rfl) : CallR X (.type "tuple") (rTupK K) := h ▸ call_tuple_of
theorem call_tupFK (K : PySem.W.Frag) (h : X.K = K := by rfl) : CallR X (.type "tuple") (rTupF K) := h ▸ call_tupF
theorem call_listK (K : PySem.W.Frag) (h : X.K = K := by rfl) : CallR X (.type "list") (rListK K) := h ▸ call_list_of
theorem call_intK : CallR X (.type "int") rIntK := call_int1
theorem call_dictPK (K : PySem.W.Frag) (hc : X.calm = true) (h : X.K = K := by rfl) : CallR X (.type "dict") (rDictPK K) := h ▸ call_dictP hc
theorem call_dictTK (K : PySem.W.Frag) (hc : X.calm = true) (h : X.K = K := by rfl) : CallR X (.type "dict") (rDictTK K) := h ▸ call_dictT hc
theorem cr_anyK (K : PySem.W.Frag) (hc : X.calm = true) (h : X.K = K := by rfl) : CallR X (.builtin "any") (rAny K) := h ▸ cr_any hc
theorem cr_allK (K : PySem.W.Frag) (hc : X.calm = true) (h : X.K = K := by rfl) : CallR X (.builtin "all") (rAll K) := h ▸ cr_all hc
theorem cr_sumK (K : PySem.W.Frag) (hc : X.calm = true) (h : X.K = K := by rfl) : CallR X (.builtin "sum") (rSum K) := h ▸ cr_sum hc
theorem cr_reprK (K : PySem.W.Frag) (hG : X.A.guards = some []) (hu : X.A.units + 64 < cLine) (h : X.K = K := by rfl) : CallR X (.builtin "repr") (rRepr K) := h ▸ cr_repr hG hu
theorem cr_setLK (K : PySem.W.Frag) (w : World) (hc : X.calm = true) (h : X.K = K := by rfl) (h2 : X.w = w := by rfl) : CallR X (.type "set") (rSetL' K w) := h ▸ h2 ▸ cr_setL hc
theorem cr_sortedSetK (w : World) (hc : X.calm = true) (h2 : X.w = w := by rfl) : CallR X (.builtin "sorted") (rSortedSet w) := h2 ▸ cr_sortedSet hc
theorem call_isiK (K : PySem.W.Frag) (h : X.K = K := by rfl) : CallR X (.builtin "isinstance") (rIsi K) := h ▸ call_isi
theorem op_eqDK (K : PySem.W.Frag) (hu : X.A.units + 64 < cLine) (h : X.K = K := by rfl) : OpR X (compareOp .Eq) (rEqD K) := h ▸ op_eqD hu
theorem op_neDK (K : PySem.W.Frag) (hu : X.A.units + 64 < cLine) (h : X.K = K := by rfl) : OpR X (compareOp .NotEq) (rNeD K) := h ▸ op_neD hu
theorem op_catAK (K : PySem.W.Frag) (h : X.K = K := by rfl) : OpR X (binaryOp .Add) (rCatA K) := h ▸ op_catA
theorem op_repTK (K : PySem.W.Frag) (h : X.K = K := by rfl) : OpR X (binaryOp .Mult) (rRepT K) := h ▸ op_repT
theorem sl_listK (K : PySem.W.Frag) (h : X.K = K := by rfl) : SlR X (rSlL K) := h ▸ sl_list
theorem pi_tupK (K : PySem.W.Frag) {tg l : Expr} {tl : TE} (hl : PE X l tl) (h : X.K = K := by rfl) : PI X tg l (iTup K tl) := h ▸ pi_tup hl
theorem pi_listK (K : PySem.W.Frag) {tg l : Expr} {tl : TE} (hl : PE X l tl) (h : X.K = K := by rfl) : PI X tg l (iList K tl) := h ▸ pi_list hl
theorem pi_enumTK (K : PySem.W.Frag) {e : Expr} {ta : TA} {p pos tpos : Pos} {elts : List Expr} {kk : Nat} (hg : Gl X "enumerate") (hm : X.mg "enumerate" = none) (ha : PA X [e] ta) (h : X.K = K := by rfl) (hs : starEach [e] X.env = [(false, eval e X.env)] := by rfl) :
    PI X (.Tuple elts kk tpos) (.Call (.Name "enumerate" p) [e] [] pos) (iEnumT K ta) := h ▸ pi_enumT hg hm ha hs
theorem pi_enumK (K : PySem.W.Frag) {e : Expr} {ta : TA} {p pos tpos : Pos} {elts : List Expr} {kk : Nat} (hg : Gl X "enumerate") (hm : X.mg "enumerate" = none) (ha : PA X [e] ta) (h : X.K = K := by rfl) (hs : starEach [e] X.env = [(false, eval e X.env)] := by rfl) :
    PI X (.Tuple elts kk tpos) (.Call (.Name "enumerate" p) [e] [] pos) (iEnum K ta) := h ▸ pi_enum hg hm ha hs
theorem pg_tupK (K : PySem.W.Frag) {es : List Expr} {k : Nat} {t : TGs} {n : Nat} {pos : Pos} (hc : X.calm = true) (hp : PGs X es t) (h : X.K = K := by rfl)
    (hn : (assignEach es X.env).length = n := by rfl) (hst : (assignEach es X.env).findIdx? (·.1) = none := by rfl) : PG X (.Tuple es k pos) (gTup K n t) := h ▸ pg_tup hc hp hn hst
end
section
variable {K : PySem.W.Frag} {d : D} {ds as : List D}
theorem cv_lenK (h : d.seq = some ds) : CV (rLenK K) [d] (.int ds.length) := cv_len h
theorem cv_tupleK : CV (rTupK K) [.lst as] (.tup as) := cv_tuple
theorem cl_listK (h : d.seq = some ds) : CL (rListK K) [d] ds := cl_list h
theorem cv_intK {i : Int} : CV rIntK [.int i] (.int i) := cv_int
theorem cm_dictPK {α : Type} (E : α → D) (k : α → Int) (v : α → D) (xs : List α) (hE : ∀ a, E a = .tup [.int (k a), v a]) : CM (rDictPK K) [.lst (xs.map E)] (mergeD [] (xs.map fun a => (k a, v a))) := by
  have h := cm_dictL (K := K) (kvs := xs.map fun a => (k a, v a))
  rw [List.map_map] at h
  rw [show E = (fun kv : Int × D => D.tup [.int kv.1, kv.2]) ∘ (fun a => (k a, v a)) from funext hE]
  exact h
theorem cm_dictTK {α : Type} (E : α → D) (k : α → Int) (v : α → D) (xs : List α) (hE : ∀ a, E a = .tup [.int (k a), v a]) : CM (rDictTK K) [.tuf (xs.map E)] (mergeD [] (xs.map fun a => (k a, v a))) := by
  have h := cm_dictT (K := K) (kvs := xs.map fun a => (k a, v a))
  rw [List.map_map] at h
  rw [show E = (fun kv : Int × D => D.tup [.int kv.1, kv.2]) ∘ (fun a => (k a, v a)) from funext hE]
  exact h
end
/-! ### tables -/
abbrev Pr := Int × Int
abbrev Row := List Pr
abbrev Tab := List Int × List (Int × Row)
abbrev dTI (xs : List Int) : D := .tup (xs.map D.int)
abbrev dFI (xs : List Int) : D := .tuf (xs.map D.int)
abbrev dLI (xs : List Int) : D := .lst (xs.map D.int)
abbrev dPr (p : Pr) : D := .tup [.int p.1, .int p.2]
abbrev dRow (r : Row) : D := .tuf (r.map dPr)
abbrev dWeb (r : Row) : D := .tup (r.map dPr)
abbrev dMv (m : Int × Row) : D := .tup [.int m.1, dRow m.2]
abbrev dTab (T : Tab) : D := .tup [dFI T.1, .tuf (T.2.map dMv)]
abbrev dOpt : Option Int → D
  | none => .non
  | some i => .int i

def upM (b : Int) (k : Nat) (p : Int) : Int := b ^ k % p
def prodI (ns : List Int) : Int := ns.foldl (· * ·) 1
def weight (ns : List Int) : Int := ns.foldl (fun a p => a * (p - 1)) 1
def web (T : Tab) : Row := T.2.flatMap fun m => m.2.map fun q => (m.1, q.1)
def movers (T : Tab) : List Int := T.2.map (·.1)
def isMoved (T : Tab) (p : Int) : Bool := (web T).any fun e => decide (e.2 = p)
def isMover (T : Tab) (p : Int) : Bool := (web T).any fun e => decide (e.1 = p)
def moved (T : Tab) : List Int := T.1.filter (isMoved T)
def still (T : Tab) : List Int := T.1.filter fun p => !(isMover T p || isMoved T p)
def rowOf (T : Tab) (m : Int) : Row := ((T.2.find? fun x => decide (x.1 = m)).map (·.2)).getD []
def moversOn (T : Tab) (q : Int) : List Int := ((web T).filter fun e => decide (e.2 = q)).map (·.1)
def cut (T : Tab) (s : List Int) : Tab :=
  (T.1.filter fun p => decide (p ∈ s), (T.2.map fun m => (m.1, m.2.filter fun e => decide (e.1 ∈ s))).filter fun m => decide (m.1 ∈ s) && !decide (m.2 = []))
def subsets (ns : List Int) : List (List Int) := ns.foldl (fun acc p => acc ++ acc.map (· ++ [p])) [[]]
def struck (T : Tab) (ms : List Int) : List Int := (moved T).filter fun q => (moversOn T q).any fun p => decide (p ∈ ms)
def logIn (b g p : Int) (most : Nat) : Option Int := ((List.range most).find? fun k => decide (upM b k p = g)).map Int.ofNat
end Wa
set_option maxHeartbeats 4000000
namespace Wa
open PySem PySem.Spec PyProof.Rows L2
theorem dv_tup0 {sl : List Sl} : DV (tTup tNil) sl (.tup []) := dv_tup da_nil (by simp)
theorem dv_tup1 {sl : List Sl} {ta : TE} {d : D} (ha : DV ta sl d) : DV (tTup (tCons ta tNil)) sl (.tup [d]) := dv_tup (da_cons ha da_nil) (by simp)
theorem dv_tup2 {sl : List Sl} {ta tb : TE} {d e : D} (ha : DV ta sl d) (hb : DV tb sl e) : DV (tTup (tCons ta (tCons tb tNil))) sl (.tup [d, e]) := dv_tup (da_cons ha (da_cons hb da_nil)) (by simp)
theorem dv_tup3 {sl : List Sl} {ta tb tc : TE} {d e f : D} (ha : DV ta sl d) (hb : DV tb sl e) (hc : DV tc sl f) : DV (tTup (tCons ta (tCons tb (tCons tc tNil)))) sl (.tup [d, e, f]) := dv_tup (da_cons ha (da_cons hb (da_cons hc da_nil))) (by simp)
end Wa
set_option maxHeartbeats 4000000
namespace Wa
open PySem PySem.Spec PyProof.Rows L2
local macro_rules | `(tactic| walk_at "s") => `(tactic| first
  | with_reducible exact dv_int | with_reducible exact dv_bl | with_reducible exact dv_str | with_reducible exact dv_non
  | ((with_reducible apply dv_var); first | rfl | (show _ = _; assumption))
  | with_reducible apply dv_op
  | with_reducible apply da_cons | with_reducible exact da_nil
  | with_reducible apply dv_tup2 | with_reducible apply dv_tup1 | with_reducible apply dv_tup3 | with_reducible exact dv_tup0
  | with_reducible apply dv_isN | with_reducible apply dv_notN
  | with_reducible apply dt_test | with_reducible apply dt_B | with_reducible exact dt_yes
  | with_reducible apply (dt_and ?_ fun _ => ?_) | with_reducible apply (dt_or ?_ fun _ => ?_) | with_reducible apply dt_not
  | with_reducible apply (dv_and ?_ fun _ => ?_) | with_reducible apply dv_not
  | with_reducible apply (dv_chain (g := D.non) ?_ ?_ ?_ (fun _ => ?_) (fun _ => ?_))
  | with_reducible exact ov_I0 | with_reducible exact ov_B0 | ((with_reducible apply ov_I); first | (show 0 < _; omega) | (unfold CDiv; omega) | (unfold CMul; omega) | (unfold CDivN; omega) | skip)
  | with_reducible exact ov_eqI | with_reducible exact ov_neI | with_reducible exact ov_eqB | with_reducible exact ov_eqS | with_reducible exact ov_notB
  | with_reducible exact ov_isN | with_reducible exact ov_notN
  | with_reducible apply dv_neg
  | with_reducible apply dv_isInt | with_reducible apply dv_isBool
  | with_reducible apply dv_cb
  | (with_reducible exact cv_tupleK) | (with_reducible exact cv_tupF) | (with_reducible exact cv_intK) | (with_reducible exact cv_sum) | (with_reducible exact cv_all) | (with_reducible exact cv_any) | ((with_reducible apply cv_lenK); rfl)
  | (exact ov_ixT rfl rfl) | (exact ov_ixL rfl)
  | with_reducible apply dv_din | with_reducible apply dv_dnotin
  | (show D.items _ = some _; rfl) | (show D.seq _ = some _; rfl) | ((show WF _); assumption))
/-! Walks: the number work. -/
section
variable {P : Program} {w : World} {K : PySem.W.Frag} {mg : Str → Option Value} {base : Heap} {f : Addr} {fd : FuncData} {tv : Value}
abbrev s_power_in : Stmt := topS 2
abbrev N_power_in : List Str := ["base", "k", "prime", "found", "late", "rest"]
theorem sc_power_in : FnScope N_power_in ["base", "k", "prime"] (defScope s_power_in) := ⟨rfl, rfl, rfl, by decide +kernel, rfl, by decide +kernel, by decide +kernel⟩
abbrev sp_power_in : Sp := spF (fun x : Int × Int × Int => [.int x.1, .int x.2.1, .int x.2.2]) (fun x => 0 ≤ x.2.1 ∧ 2 ≤ x.2.2 ∧ x.2.2 < 10000) (fun x => .int (upM x.1 x.2.1.toNat x.2.2))
theorem upM_lo {b p : Int} {k : Nat} (h : 2 ≤ p) : 0 ≤ upM b k p ∧ upM b k p < p := ⟨Int.emod_nonneg _ (by omega), Int.emod_lt_of_pos _ (by omega)⟩
theorem emod_pow (b p : Int) : ∀ k : Nat, (b % p) ^ k % p = b ^ k % p
  | 0 => by rw [Int.pow_zero, Int.pow_zero]
  | k + 1 => by rw [Int.pow_succ, Int.pow_succ, Int.mul_emod, emod_pow b p k, Int.emod_emod_of_dvd _ (Int.dvd_refl p), ← Int.mul_emod]
theorem mul_up (a b p : Int) (k : Nat) : a * (b % p) ^ k % p = a * b ^ k % p := by rw [Int.mul_emod, emod_pow, ← Int.mul_emod]
theorem up_mul (a b p : Int) : (a % p) * b % p = a * b % p := by rw [Int.mul_emod, Int.emod_emod_of_dvd _ (Int.dvd_refl p), ← Int.mul_emod]
theorem power_go {fo la re p : Int} (h : 0 < re) : (if re % 2 = 1 then fo * la % p else fo) * (la * la % p) ^ (re / 2).toNat % p = fo * la ^ re.toNat % p := by
  have e : re.toNat = (re / 2).toNat + (re / 2).toNat + (re % 2).toNat := by omega
  have e2 : la ^ ((re / 2).toNat + (re / 2).toNat) = (la * la) ^ (re / 2).toNat := by rw [Int.pow_add, Int.mul_pow]
  rw [mul_up]
  by_cases hr : re % 2 = 1
  · rw [if_pos hr, up_mul, e, hr, Int.pow_add, e2]
    show _ = fo * (_ * la ^ 1) % p
    rw [Int.pow_succ, Int.pow_zero, Int.one_mul, Int.mul_comm ((la * la) ^ _) la, Int.mul_assoc]
  · have hr0 : re % 2 = 0 := by omega
    rw [if_neg hr, e, hr0, Int.pow_add, e2]
    show _ = fo * (_ * la ^ 0) % p
    rw [Int.pow_zero, Int.mul_one]
theorem small_mul {a b : Int} (h1 : 0 ≤ a) (h2 : a < 10000) : CMul a b := .inl ⟨by omega, by omega⟩
theorem ok_power_in  (F : Fun K "power_in" "power_in" s_power_in f fd) : FnOk P w K mg base CX0 1 f fd ["base", "k", "prime"] sp_power_in := by
  have nd := sc_power_in.nd
  refine F.ok (k := 0) sc_power_in (fun vs H Q E h => spF_len (n:=3) (fun _ => rfl) h) (fun cdv A outer s H vs Q E hr h => ?_)
  refine ⟨_, (pss_cons (ps_par3 (i := 3) (j := 4) (l := 5) rfl nd rfl rfl rfl (by decide) (by decide) (by decide) rfl rfl rfl (pa_cons pe_int (pa_cons (pe_op op_mod (pv 0) (pv 2)) (pa_cons (pv 1) pa_nil))) (by rfl))
      (pss_cons (ps_while PassesOwn.never (pt_cmpR op_gt (pv 5) pe_int (nomark _)) (pss_cons (ps_if (pt_cmpR op_eq (pe_op op_mod (pv 5) pe_int) pe_int (nomark _)) (pss_one (ps_set (i := 3) nd rfl (Or.inl rfl) (pe_op op_mod (pe_op op_mul (pv 3) (pv 4)) (pv 2)))) pss_nil)
      (pss_one (ps_par (i := 4) (j := 5) rfl nd rfl rfl (by decide) rfl rfl (pa_cons (pe_op op_mod (pe_op op_mul (pv 4) (pv 4)) (pv 2)) (pa_cons (pe_op op_fdiv (pv 5) pe_int) pa_nil)) (by rfl)))))
      (pss_one (ps_ret (pv 3))))), body_ok (N := N_power_in) h fun x hp => ?_⟩
  obtain ⟨b, k, p⟩ := x
  obtain ⟨h1, h2, h3⟩ := hp
  dsimp only at h1 h2 h3
  show DS _ [.d (.int b), .d (.int k), .d (.int p), .un, .un, .un] _
  have hm := Int.emod_nonneg b (show p ≠ 0 by omega)
  have hm2 := Int.emod_lt_of_pos b (show 0 < p by omega)
  apply ds_seq
  apply ds_par3
  · repeat' walk_at "s"
  apply ds_seq
  refine ds_while (fun m s => ∃ fo la re, s = [.d (.int b), .d (.int k), .d (.int p), .d (.int fo), .d (.int la), .d (.int re)] ∧ 0 ≤ re ∧ m = re.toNat ∧ 0 ≤ fo ∧ fo < p ∧ 0 ≤ la ∧ la < p ∧ fo * la ^ re.toNat % p = upM b k.toNat p) k.toNat ⟨1, b % p, k, rfl, h1, rfl, by omega, by omega, hm, hm2, by rw [Int.one_mul, emod_pow] <;> rfl⟩ ?_
  rintro m s ⟨fo, la, re, rfl, i1, rfl, i2, i3, i4, i5, i6⟩
  refine ⟨decide (0 < re), ?_, fun hb => ?_, fun hb => ?_⟩
  · repeat' walk_at "s"
  · have hb' : 0 < re := of_decide_eq_true hb
    have m1 := Int.emod_nonneg (la * la) (show p ≠ 0 by omega)
    have m2 := Int.emod_lt_of_pos (la * la) (show 0 < p by omega)
    have fin : ∀ fo' : Int, 0 ≤ fo' → fo' < p → fo' = (if re % 2 = 1 then fo * la % p else fo) → ∃ m', m' < re.toNat ∧ ∃ f1 l1 r1 : Int, [Sl.d (.int b), .d (.int k), .d (.int p), .d (.int fo'), .d (.int (la * la % p)), .d (.int (re / 2))] = [.d (.int b), .d (.int k), .d (.int p), .d (.int f1), .d (.int l1), .d (.int r1)] ∧ 0 ≤ r1 ∧ m' = r1.toNat ∧ 0 ≤ f1 ∧ f1 < p ∧ 0 ≤ l1 ∧ l1 < p ∧ f1 * l1 ^ r1.toNat % p = upM b k.toNat p := fun fo' g1 g2 g3 => ⟨(re / 2).toNat, by omega, fo', la * la % p, re / 2, rfl, by omega, rfl, g1, g2, m1, m2, by rw [g3, power_go hb', i6]⟩
    apply ds_seq
    apply ds_if
    · repeat' walk_at "s"
    · intro hc
      have hc' : re % 2 = 1 := of_decide_eq_true hc
      apply ds_set
      · repeat' walk_at "s"
      apply ds_par
      · repeat' walk_at "s"
      exact fin _ (Int.emod_nonneg _ (by omega)) (Int.emod_lt_of_pos _ (by omega)) (by rw [if_pos hc'])
    · intro hc
      have hc' : ¬ re % 2 = 1 := of_decide_eq_false hc
      apply ds_nx
      apply ds_par
      · repeat' walk_at "s"
      exact fin _ i2 i3 (by rw [if_neg hc'])
  · have hb' : re = 0 := by
      have := of_decide_eq_false hb
      omega
    subst hb'
    apply ds_ret
    · repeat' walk_at "s"
    · show D.int fo = D.int _
      rw [← i6, show (0 : Int).toNat = 0 from rfl, Int.pow_zero, Int.mul_one, Int.emod_eq_of_lt i2 i3]
end
end Wa
set_option maxHeartbeats 4000000
namespace Wa
open PySem PySem.Spec PyProof.Rows L2
local macro_rules | `(tactic| walk_at "s") => `(tactic| first
  | with_reducible exact dv_int | with_reducible exact dv_bl | with_reducible exact dv_str | with_reducible exact dv_non
  | ((with_reducible apply dv_var); first | rfl | (show _ = _; assumption))
  | with_reducible apply dv_op
  | with_reducible apply da_cons | with_reducible exact da_nil
  | with_reducible apply dv_tup2 | with_reducible apply dv_tup1 | with_reducible apply dv_tup3 | with_reducible exact dv_tup0
  | with_reducible apply dv_isN | with_reducible apply dv_notN
  | with_reducible apply dt_test | with_reducible apply dt_B | with_reducible exact dt_yes
  | with_reducible apply (dt_and ?_ fun _ => ?_) | with_reducible apply (dt_or ?_ fun _ => ?_) | with_reducible apply dt_not
  | with_reducible apply (dv_and ?_ fun _ => ?_) | with_reducible apply dv_not
  | with_reducible apply (dv_chain (g := D.non) ?_ ?_ ?_ (fun _ => ?_) (fun _ => ?_))
  | with_reducible exact ov_I0 | with_reducible exact ov_B0 | ((with_reducible apply ov_I); first | (show 0 < _; omega) | (unfold CDiv; omega) | (unfold CMul; omega) | (unfold CDivN; omega) | skip)
  | with_reducible exact ov_eqI | with_reducible exact ov_neI | with_reducible exact ov_eqB | with_reducible exact ov_eqS | with_reducible exact ov_notB
  | with_reducible exact ov_isN | with_reducible exact ov_notN
  | with_reducible apply dv_neg
  | with_reducible apply dv_isInt | with_reducible apply dv_isBool
  | with_reducible apply dv_cb
  | (with_reducible exact cv_tupleK) | (with_reducible exact cv_tupF) | (with_reducible exact cv_intK) | (with_reducible exact cv_sum) | (with_reducible exact cv_all) | (with_reducible exact cv_any) | ((with_reducible apply cv_lenK); rfl)
  | (exact ov_ixT rfl rfl) | (exact ov_ixL rfl)
  | with_reducible apply dv_din | with_reducible apply dv_dnotin
  | (show D.items _ = some _; rfl) | (show D.seq _ = some _; rfl) | ((show WF _); assumption))
/-! Tables that are right; lists that are folded; the table work. -/
theorem dl_lcE {α β : Type} {sl : List Sl} {te : TE} {wi : TI} {g : TG} {tt : TT} {vs : List Nat} (xs : List α) (E : α → D) (us : α → List (Nat × D)) (p : α → Bool) (f : α → β) (E' : β → D) (hi : DIt wi sl (xs.map E)) (hg : ∀ x ∈ xs, DG g (E x) (us x))
    (hu : ∀ x ∈ xs, ((us x).all fun u => vs.contains u.1) = true) (ht : ∀ x ∈ xs, DT tt (setS (wipeS sl vs) (us x)) (p x)) (he : ∀ x ∈ xs, p x = true → DV te (setS (wipeS sl vs) (us x)) (E' (f x))) (hl : xs.length ≤ 1000000) :
    DV (tLc wi g tt te vs) sl (.lst (((xs.filter p).map f).map E')) := by
  rw [List.map_map]
  exact (dl_lc xs E us p (fun x => E' (f x)) hi hg hu ht he hl).v
theorem dl_lcE0 {α β : Type} {sl : List Sl} {te : TE} {wi : TI} {g : TG} {vs : List Nat} (xs : List α) (E : α → D) (us : α → List (Nat × D)) (f : α → β) (E' : β → D) (hi : DIt wi sl (xs.map E)) (hg : ∀ x ∈ xs, DG g (E x) (us x))
    (hu : ∀ x ∈ xs, ((us x).all fun u => vs.contains u.1) = true) (he : ∀ x ∈ xs, DV te (setS (wipeS sl vs) (us x)) (E' (f x))) (hl : xs.length ≤ 1000000) :
    DV (tLc wi g tYes te vs) sl (.lst ((xs.map f).map E')) := by
  rw [List.map_map]
  exact (dl_lc0 xs E us (fun x => E' (f x)) hi hg hu he hl).v
theorem putD_new {ks : List (Int × D)} {k : Int} {d : D} (h : k ∉ ks.map (·.1)) : putD ks k d = ks ++ [(k, d)] := by
  unfold putD
  rw [if_neg]
  intro q
  obtain ⟨x, hx, e⟩ := List.any_eq_true.mp q
  exact h (List.mem_map.mpr ⟨x, hx, of_decide_eq_true e⟩)
theorem mergeD_go : ∀ (ms ks : List (Int × D)), ((ks ++ ms).map (·.1)).Pairwise (· < ·) → mergeD ks ms = ks ++ ms
  | [], ks, _ => (List.append_nil _).symm
  | (k, d) :: ms, ks, h => by
    have hk : k ∉ ks.map (·.1) := fun q => by
      rw [List.map_append, List.pairwise_append] at h
      have := h.2.2 k q k List.mem_cons_self
      omega
    have h2 : mergeD ks ((k, d) :: ms) = mergeD (putD ks k d) ms := rfl
    have e : ks ++ [(k, d)] ++ ms = ks ++ (k, d) :: ms := by rw [List.append_assoc, List.singleton_append]
    rw [h2, putD_new hk, mergeD_go ms _ (by rw [e]; exact h), e]
theorem mergeD_self {ms : List (Int × D)} (h : (ms.map (·.1)).Pairwise (· < ·)) : mergeD [] ms = ms := mergeD_go ms [] h
theorem take_snoc {α : Type} {xs : List α} {i : Nat} {x : α} (h : xs[i]? = some x) : xs.take (i + 1) = xs.take i ++ [x] := by
  rw [List.take_add_one, h] <;> rfl
theorem mem_at {α : Type} {xs : List α} {i : Nat} {x : α} (h : xs[i]? = some x) : x ∈ xs := List.mem_of_getElem? h

def PS : List Int := [2, 3, 5, 7, 11, 13, 17, 19, 31]
def ES : List (Int × Int) := [(2, 3), (2, 5), (3, 7), (2, 7), (2, 11), (5, 11), (3, 13), (2, 13), (5, 31), (3, 19), (3, 31)]
structure WFm (ps : List Int) (m : Int × Row) : Prop where
  mi : m.1 ∈ ps
  ne : m.2 ≠ []
  so : (m.2.map (·.1)).Pairwise (· < ·)
  ln : m.2.length ≤ 5
  ed : ∀ e ∈ m.2, e.1 ∈ ps ∧ (m.1, e.1) ∈ ES ∧ 1 < e.2 ∧ e.2 < e.1 ∧ upM e.2 m.1.toNat e.1 = 1
structure WF (T : Tab) : Prop where
  ps : T.1.Pairwise (· < ·)
  pin : ∀ p ∈ T.1, p ∈ PS
  pl : T.1.length ≤ 5
  ms : (T.2.map (·.1)).Pairwise (· < ·)
  ml : T.2.length ≤ 5
  mv : ∀ m ∈ T.2, WFm T.1 m
  nc : ∀ m ∈ T.2, ∀ m' ∈ T.2, ∀ e ∈ m'.2, m.1 ≠ e.1
local macro_rules | `(tactic| walk_at "s") => `(tactic| ((show WF _); assumption))
theorem ps_lo {p : Int} (h : p ∈ PS) : 2 ≤ p ∧ p ≤ 31 := by
  simp only [PS, List.mem_cons, List.not_mem_nil, or_false] at h
  omega
theorem web_len {T : Tab} (h : WF T) : (web T).length ≤ 25 := by
  have go : ∀ ms : List (Int × Row), (∀ m ∈ ms, m.2.length ≤ 5) → (ms.flatMap fun m => m.2.map fun q => (m.1, q.1)).length ≤ 5 * ms.length := fun ms => by
    induction ms with
    | nil => exact fun _ => Nat.le_refl _
    | cons m ms ih =>
      intro hm
      rw [List.flatMap_cons, List.length_append, List.length_map, List.length_cons]
      have a := hm m List.mem_cons_self
      have b := ih fun x hx => hm x (List.mem_cons_of_mem _ hx)
      omega
  have := go T.2 fun m hm => (h.mv m hm).ln
  have := h.ml
  unfold web
  omega
theorem mem_web {T : Tab} {e : Pr} : e ∈ web T ↔ ∃ m ∈ T.2, ∃ q ∈ m.2, e = (m.1, q.1) := by
  unfold web
  rw [List.mem_flatMap]
  exact ⟨fun ⟨m, hm, he⟩ => by
    obtain ⟨q, hq, rfl⟩ := List.mem_map.mp he
    exact ⟨m, hm, q, hq, rfl⟩, fun ⟨m, hm, q, hq, e⟩ => ⟨m, hm, List.mem_map.mpr ⟨q, hq, e.symm⟩⟩⟩

section
variable {P : Program} {w : World} {K : PySem.W.Frag} {mg : Str → Option Value} {base : Heap} {f : Addr} {fd : FuncData} {tv : Value} {sl : List Sl} {tr : TA} {E : XK}
theorem cl_power_in {b k p : Int} (h : DA tr sl [.int b, .int k, .int p]) (hp : 0 ≤ k ∧ 2 ≤ p ∧ p < 10000) : DV (tCall sp_power_in [] E tr) sl (.int (upM b k.toNat p)) := dv_call0 (enc := fun x : Int × Int × Int => [.int x.1, .int x.2.1, .int x.2.2]) (b, k, p) h hp
local macro_rules | `(tactic| walk_at "s") => `(tactic| with_reducible apply cl_power_in)

abbrev s_size_in : Stmt := topS 3
abbrev N_size_in : List Str := ["primes", "found", "prime"]
theorem sc_size_in : FnScope N_size_in ["primes"] (defScope s_size_in) := ⟨rfl, rfl, rfl, by decide +kernel, rfl, by decide +kernel, by decide +kernel⟩
def sp_size_in : Sp := spF (fun x : D × List Int => [x.1]) (fun x => x.1.seq = some (x.2.map D.int) ∧ ∀ n ∈ x.2, 0 ≤ n ∧ n < 10000) (fun x => .int (prodI x.2))
theorem prodI_snoc (ns : List Int) (n : Int) : prodI (ns ++ [n]) = prodI ns * n := List.foldl_append ..
theorem ok_size_in  (F : Fun K "size_in" "size_in" s_size_in f fd) : FnOk P w K mg base CX0 1 f fd ["primes"] sp_size_in := by
  have nd := sc_size_in.nd
  refine F.ok (k := 0) sc_size_in (fun vs H Q E h => spF_len (n:=1) (fun _ => rfl) h) (fun cdv A outer s H vs Q E hr h => ?_)
  refine ⟨_, (pss_cons (ps_set (i := 1) nd rfl (Or.inl rfl) pe_int)
      (pss_cons (ps_for PassesOwn.never rfl (pi_or (pi_listK K (pv 0)) (pi_tupK K (pv 0))) (pg_name (i := 2) nd rfl (Or.inl rfl)) (pss_one (ps_set (i := 1) nd rfl (Or.inl rfl) (pe_op op_mul (pv 1) (pv 2)))))
      (pss_one (ps_ret (pv 1))))), body_ok (N := N_size_in) h fun x hp => ?_⟩
  obtain ⟨d, ns⟩ := x
  obtain ⟨h1, h2⟩ := hp
  show DS _ [.d d, .un, .un] _
  apply ds_seq
  apply ds_set
  · repeat' walk_at "s"
  apply ds_seq
  refine ds_for ns D.int (fun n => [(2, .int n)]) (fun i s => ∃ l, s = [.d d, .d (.int (prodI (ns.take i))), l]) (di_seq (dv_var rfl) h1) (fun _ _ => dg_name) ⟨_, rfl⟩ ?_ ?_
  · rintro i n s hi ⟨l, rfl⟩
    have hn := h2 n (mem_at hi)
    apply ds_set
    · repeat' walk_at "s"
    · exact ⟨_, by rw [take_snoc hi, prodI_snoc] <;> rfl⟩
  · rintro s ⟨l, rfl⟩
    apply ds_ret
    · repeat' walk_at "s"
    · rw [List.take_length]
theorem cl_size_in {d : D} {ns : List Int} (h : DA tr sl [d]) (hs : d.seq = some (ns.map D.int)) (hb : ∀ n ∈ ns, 0 ≤ n ∧ n < 10000) : DV (tCall sp_size_in [] E tr) sl (.int (prodI ns)) := dv_call0 (enc := fun x : D × List Int => [x.1]) (d, ns) h ⟨hs, hb⟩
local macro_rules | `(tactic| walk_at "s") => `(tactic| with_reducible apply cl_size_in)

abbrev s_weight_of : Stmt := topS 15
abbrev N_weight_of : List Str := ["primes", "found", "prime"]
theorem sc_weight_of : FnScope N_weight_of ["primes"] (defScope s_weight_of) := ⟨rfl, rfl, rfl, by decide +kernel, rfl, by decide +kernel, by decide +kernel⟩
def sp_weight_of : Sp := spF (fun x : List Int => [dTI x]) (fun x => ∀ n ∈ x, 0 ≤ n ∧ n < 10000) (fun x => .int (weight x))
theorem weight_snoc (ns : List Int) (n : Int) : weight (ns ++ [n]) = weight ns * (n - 1) := List.foldl_append ..
theorem ok_weight_of  (F : Fun K "weight_of" "weight_of" s_weight_of f fd) : FnOk P w K mg base CX0 1 f fd ["primes"] sp_weight_of := by
  have nd := sc_weight_of.nd
  refine F.ok (k := 0) sc_weight_of (fun vs H Q E h => spF_len (n:=1) (fun _ => rfl) h) (fun cdv A outer s H vs Q E hr h => ?_)
  refine ⟨_, (pss_cons (ps_set (i := 1) nd rfl (Or.inl rfl) pe_int)
      (pss_cons (ps_for PassesOwn.never rfl (pi_tupK K (pv 0)) (pg_name (i := 2) nd rfl (Or.inl rfl)) (pss_one (ps_set (i := 1) nd rfl (Or.inl rfl) (pe_op op_mul (pv 1) (pe_op op_sub (pv 2) pe_int)))))
      (pss_one (ps_ret (pv 1))))), body_ok (N := N_weight_of) h fun x hp => ?_⟩
  show DS _ [.d (dTI x), .un, .un] _
  apply ds_seq
  apply ds_set
  · repeat' walk_at "s"
  apply ds_seq
  refine ds_for x D.int (fun n => [(2, .int n)]) (fun i s => ∃ l, s = [.d (dTI x), .d (.int (weight (x.take i))), l]) (di_tup (dv_var rfl) rfl) (fun _ _ => dg_name) ⟨_, rfl⟩ ?_ ?_
  · rintro i n s hi ⟨l, rfl⟩
    have hn := hp n (mem_at hi)
    apply ds_set
    · repeat' walk_at "s"
    · exact ⟨_, by rw [take_snoc hi, weight_snoc] <;> rfl⟩
  · rintro s ⟨l, rfl⟩
    apply ds_ret
    · repeat' walk_at "s"
    · rw [List.take_length]
theorem cl_weight_of {ns : List Int} (h : DA tr sl [dTI ns]) (hb : ∀ n ∈ ns, 0 ≤ n ∧ n < 10000) : DV (tCall sp_weight_of [] E tr) sl (.int (weight ns)) := dv_call0 (enc := fun x : List Int => [dTI x]) ns h hb
local macro_rules | `(tactic| walk_at "s") => `(tactic| with_reducible apply cl_weight_of)

abbrev s_rows_in : Stmt := topS 5
abbrev N_rows_in : List Str := ["table"]
theorem sc_rows_in : FnScope N_rows_in ["table"] (defScope s_rows_in) := ⟨rfl, rfl, rfl, by decide +kernel, rfl, by decide +kernel, by decide +kernel⟩
def rowsD (T : Tab) : List (Int × D) := T.2.map fun m => (m.1, dRow m.2)
def sp_rows_in : Sp := spF (fun x : Tab => [dTab x]) WF (fun x => .dic (rowsD x))
theorem ok_rows_in  (B : Blt mg tv) (F : Fun K "rows_in" "rows_in" s_rows_in f fd) : FnOk P w K mg base CX0 1 f fd ["table"] sp_rows_in := by
  have nd := sc_rows_in.nd
  refine F.ok (k := 0) sc_rows_in (fun vs H Q E h => spF_len (n:=1) (fun _ => rfl) h) (fun cdv A outer s H vs Q E hr h => ?_)
  refine ⟨_, (pss_one (ps_ret (pe_callTy (call_dictTK K rfl) (by rfl) B.dict_ (by decide +kernel) (pa_cons (pe_ix (ix_tupK K) (pv 0) pe_int (fun _ _ => rfl)) pa_nil)))), body_ok (N := N_rows_in) h fun x hp => ?_⟩
  show DS _ [.d (dTab x)] _
  have e : mergeD [] (rowsD x) = rowsD x := mergeD_self (by
    unfold rowsD
    rw [List.map_map]
    exact hp.ms)
  apply ds_ret
  · repeat' walk_at "s"
    exact (cm_dictTK (xs := x.2) dMv (·.1) (fun m => dRow m.2) (fun _ => rfl)).v
  · exact congrArg D.dic e
theorem cl_rows_in {T : Tab} (h : DA tr sl [dTab T]) (hw : WF T) : DV (tCall sp_rows_in [] E tr) sl (.dic (rowsD T)) := dv_call0 (enc := fun x : Tab => [dTab x]) T h hw
local macro_rules | `(tactic| walk_at "s") => `(tactic| with_reducible apply cl_rows_in)

abbrev s_web_in : Stmt := topS 6
abbrev N_web_in : List Str := ["table", "found", "mover", "row", "late", "root"]
theorem sc_web_in : FnScope N_web_in ["table"] (defScope s_web_in) := ⟨rfl, rfl, rfl, by decide +kernel, rfl, by decide +kernel, by decide +kernel⟩
def sp_web_in : Sp := spF (fun x : Tab => [dTab x]) WF (fun x => dWeb (web x))
theorem web_take {T : Tab} {i : Nat} {m : Int × Row} (h : T.2[i]? = some m) : web (T.1, T.2.take (i + 1)) = web (T.1, T.2.take i) ++ m.2.map fun q => (m.1, q.1) := by
  unfold web
  rw [take_snoc h, List.flatMap_append, List.flatMap_cons, List.flatMap_nil, List.append_nil]
theorem web_cut {T : Tab} (h : WF T) (i : Nat) : (web (T.1, T.2.take i)).length ≤ 25 := by
  have e : web T = web (T.1, T.2.take i) ++ web (T.1, T.2.drop i) := by
    unfold web
    rw [← List.flatMap_append, List.take_append_drop]
  have := web_len h
  rw [e, List.length_append] at this
  omega
theorem ok_web_in  (B : Blt mg tv) (F : Fun K "web_in" "web_in" s_web_in f fd) : FnOk P w K mg base CX0 1 f fd ["table"] sp_web_in := by
  have nd := sc_web_in.nd
  refine F.ok (k := 0) sc_web_in (fun vs H Q E h => spF_len (n:=1) (fun _ => rfl) h) (fun cdv A outer s H vs Q E hr h => ?_)
  refine ⟨_, (pss_cons (ps_set (i := 1) nd rfl (Or.inl rfl) (pe_lst pa_nil))
      (pss_cons (ps_for PassesOwn.never rfl (pi_tupK K (pe_ix (ix_tupK K) (pv 0) pe_int (fun _ _ => rfl))) (pg_tupK (n := 2) K rfl (pgs_cons (pg_name (i := 2) nd rfl (Or.inl rfl)) (pgs_cons (pg_name (i := 3) nd rfl (Or.inl rfl)) pgs_nil))) (pss_one (ps_for PassesOwn.never rfl (pi_tupK K (pv 3)) (pg_tupK (n := 2) K rfl (pgs_cons (pg_name (i := 4) nd rfl (Or.inl rfl)) (pgs_cons (pg_name (i := 5) nd rfl (Or.inl rfl)) pgs_nil))) (pss_one (ps_expr (pe_bm PySem.F.plainAttrs_list PySem.F.slot_list_append PySem.F.type_list_append mt_append (pv 1) (pa_cons (pe_tup (pa_cons (pv 2) (pa_cons (pv 4) pa_nil))) pa_nil)))))))
      (pss_one (ps_ret (pe_callTy (call_tupleK K) (by rfl) B.tuple_ (by decide +kernel) (pa_cons (pv 1) pa_nil)))))), body_ok (N := N_web_in) h fun x hp => ?_⟩
  show DS _ [.d (dTab x), .un, .un, .un, .un, .un] _
  apply ds_seq
  apply ds_asgL (xs := [])
  · exact dl_lst da_nil
  apply ds_seq
  refine ds_for x.2 dMv (fun m => [(2, .int m.1), (3, dRow m.2)]) (fun i s => ∃ a b c e, s = [.d (dTab x), .ml ((web (x.1, x.2.take i)).map dPr), a, b, c, e]) (di_tup (d := .tuf (x.2.map dMv)) ?_ rfl) (fun _ _ => dg_tup rfl (dgs_cons (dgs_cons dgs_nil))) ⟨_, _, _, _, rfl⟩ ?_ ?_
  · repeat' walk_at "s"
  · rintro i m s hi ⟨a, b, c, e, rfl⟩
    have wl := web_cut hp i
    have rl := (hp.mv m (mem_at hi)).ln
    refine ds_for m.2 dPr (fun e => [(4, .int e.1), (5, .int e.2)]) (fun j s => ∃ c e, s = [.d (dTab x), .ml ((web (x.1, x.2.take i) ++ (m.2.take j).map fun q => (m.1, q.1)).map dPr), .d (.int m.1), .d (dRow m.2), c, e]) (di_tup (d := dRow m.2) ?_ rfl) (fun _ _ => dg_tup rfl (dgs_cons (dgs_cons dgs_nil))) ⟨c, e, by rw [List.take_zero, List.map_nil, List.append_nil] <;> rfl⟩ ?_ ?_
    · repeat' walk_at "s"
    · rintro j q s hj ⟨c, e, rfl⟩
      have h1 : (web (x.1, x.2.take i) ++ (m.2.take (j + 1)).map fun q => (m.1, q.1)).map dPr = (web (x.1, x.2.take i) ++ (m.2.take j).map fun q => (m.1, q.1)).map dPr ++ [dPr (m.1, q.1)] := by
        simp [take_snoc hj]
      apply ds_app (xs := (web (x.1, x.2.take i) ++ (m.2.take j).map fun q => (m.1, q.1)).map dPr) rfl
      · repeat' walk_at "s"
      · rw [List.length_map, List.length_append, List.length_map, List.length_take]
        omega
      · exact ⟨_, _, by rw [h1] <;> rfl⟩
    · rintro s ⟨c, e, rfl⟩
      exact ⟨_, _, _, _, by rw [web_take hi, List.take_length]⟩
  · rintro s ⟨a, b, c, e, rfl⟩
    rw [List.take_length]
    refine ds_frz 1 rfl ?_
    apply ds_ret
    · repeat' walk_at "s"
    · rfl
theorem cl_web_in {T : Tab} (h : DA tr sl [dTab T]) (hw : WF T) : DV (tCall sp_web_in [] E tr) sl (dWeb (web T)) := dv_call0 (enc := fun x : Tab => [dTab x]) T h hw
local macro_rules | `(tactic| walk_at "s") => `(tactic| with_reducible apply cl_web_in)

abbrev s_movers_in : Stmt := topS 7
abbrev N_movers_in : List Str := ["table", "mover", "row"]
theorem sc_movers_in : FnScope N_movers_in ["table"] (defScope s_movers_in) := ⟨rfl, rfl, rfl, by decide +kernel, rfl, by decide +kernel, by decide +kernel⟩
def sp_movers_in : Sp := spF (fun x : Tab => [dTab x]) WF (fun x => dTI (movers x))
theorem ok_movers_in  (B : Blt mg tv) (F : Fun K "movers_in" "movers_in" s_movers_in f fd) : FnOk P w K mg base CX0 1 f fd ["table"] sp_movers_in := by
  have nd := sc_movers_in.nd
  refine F.ok (k := 0) sc_movers_in (fun vs H Q E h => spF_len (n:=1) (fun _ => rfl) h) (fun cdv A outer s H vs Q E hr h => ?_)
  refine ⟨_, (pss_one (ps_ret (pe_callTy (call_tupleK K) (by rfl) B.tuple_ (by decide +kernel) (pa_cons (pe_lc (own := [("mover", 1), ("row", 2)]) rfl nd (pi_tupK K (pe_ix (ix_tupK K) (pv 0) pe_int (fun _ _ => rfl))) (blkOk_by (N := N_movers_in) (sc := (defScope s_movers_in)) (by decide +kernel)) (fun _ _ _ _ _ => (pg_tupK (n := 2) K rfl (pgs_cons (pg_name (i := 1) nd rfl (Or.inl rfl)) (pgs_cons (pg_name (i := 2) nd rfl (Or.inl rfl)) pgs_nil)))) (fun _ _ _ _ _ => pts_nil) (fun _ _ _ _ _ => (pv 1))) pa_nil)))), body_ok (N := N_movers_in) h fun x hp => ?_⟩
  show DS _ [.d (dTab x), .un, .un] _
  have := hp.ml
  apply ds_ret
  · repeat' walk_at "s"
    · refine dl_lcE0 x.2 dMv (fun m => [(1, .int m.1), (2, dRow m.2)]) (·.1) D.int (di_tup (d := .tuf (x.2.map dMv)) ?_ rfl) (fun _ _ => dg_tup rfl (dgs_cons (dgs_cons dgs_nil))) (fun _ _ => rfl) (fun m _ => ?_) (by omega)
      all_goals repeat' walk_at "s"
    all_goals repeat' walk_at "s"
  · rfl
theorem cl_movers_in {T : Tab} (h : DA tr sl [dTab T]) (hw : WF T) : DV (tCall sp_movers_in [] E tr) sl (dTI (movers T)) := dv_call0 (enc := fun x : Tab => [dTab x]) T h hw
local macro_rules | `(tactic| walk_at "s") => `(tactic| with_reducible apply cl_movers_in)

/-! dicts that stand for sets -/
theorem put_any (ks : List (Int × D)) (k j : Int) (d : D) : (getD' (putD ks k d) j).isSome = ((getD' ks j).isSome || decide (k = j)) := by
  have q : ∀ (ls : List (Int × D)) (j : Int), (getD' ls j).isSome = ls.any fun kv => decide (kv.1 = j) := fun ls j => by
    unfold getD'
    rw [Option.isSome_map]
    induction ls with
    | nil => rfl
    | cons a ls ih =>
      rw [List.find?_cons, List.any_cons, ← ih]
      cases decide (a.1 = j) <;> rfl
  rw [q, q]
  unfold putD
  split
  · rename_i h
    rw [List.any_map]
    have e : ((fun kv : Int × D => decide (kv.1 = j)) ∘ fun kv => if kv.1 = k then (kv.1, d) else kv) = fun kv => decide (kv.1 = j) := funext fun kv => by
      show decide ((if kv.1 = k then (kv.1, d) else kv).1 = j) = _
      split <;> rfl
    rw [e]
    by_cases hk : k = j
    · subst hk
      rw [h]
      rfl
    · rw [decide_eq_false hk, Bool.or_false]
  · rw [List.any_append]
    simp
theorem merge_any : ∀ (ms ks : List (Int × D)) (j : Int), (getD' (mergeD ks ms) j).isSome = ((getD' ks j).isSome || ms.any fun kv => decide (kv.1 = j))
  | [], ks, j => by simp [mergeD]
  | (k, d) :: ms, ks, j => by
    show (getD' (mergeD (putD ks k d) ms) j).isSome = _
    rw [merge_any ms, put_any, List.any_cons, Bool.or_assoc]
theorem merge_any0 (ms : List (Int × D)) (j : Int) : (getD' (mergeD [] ms) j).isSome = ms.any fun kv => decide (kv.1 = j) := by
  rw [merge_any]
  rfl

abbrev s_moved_in : Stmt := topS 8
abbrev N_moved_in : List Str := ["table", "gone", "pair", "prime"]
theorem sc_moved_in : FnScope N_moved_in ["table"] (defScope s_moved_in) := ⟨rfl, rfl, rfl, by decide +kernel, rfl, by decide +kernel, by decide +kernel⟩
def sp_moved_in : Sp := spF (fun x : Tab => [dTab x]) WF (fun x => dTI (moved x))
theorem ok_moved_in (D_web_in : Def P w K mg base "web_in" ["table"] [] 1 sp_web_in) (B : Blt mg tv) (F : Fun K "moved_in" "moved_in" s_moved_in f fd) : FnOk P w K mg base CX0 2 f fd ["table"] sp_moved_in := by
  have nd := sc_moved_in.nd
  refine F.ok (k := 1) sc_moved_in (fun vs H Q E h => spF_len (n:=1) (fun _ => rfl) h) (fun cdv A outer s H vs Q E hr h => ?_)
  refine ⟨_, (pss_cons (ps_set (i := 1) nd rfl (Or.inr rfl) (pe_callTy (call_dictPK K rfl) (by rfl) B.dict_ (by decide +kernel) (pa_cons (pe_lc (own := [("pair", 2)]) rfl nd (pi_tupK K (pe_def D_web_in (hr.mono (by decide)) (by rfl) (pa_cons (pv 0) pa_nil))) (blkOk_by (N := N_moved_in) (sc := (defScope s_moved_in)) (by decide +kernel)) (fun _ _ _ _ _ => (pg_name (i := 2) nd rfl (Or.inl rfl))) (fun _ _ _ _ _ => pts_nil) (fun _ _ _ _ _ => (pe_tup (pa_cons (pe_ix (ix_tupK K) (pv 2) pe_int (fun _ _ => rfl)) (pa_cons pe_bl pa_nil))))) pa_nil)))
      (pss_one (ps_ret (pe_callTy (call_tupleK K) (by rfl) B.tuple_ (by decide +kernel) (pa_cons (pe_lc (own := [("prime", 3)]) rfl nd (pi_tupK K (pe_ix (ix_tupK K) (pv 0) pe_int (fun _ _ => rfl))) (blkOk_by (N := N_moved_in) (sc := (defScope s_moved_in)) (by decide +kernel)) (fun _ _ _ _ _ => (pg_name (i := 3) nd rfl (Or.inl rfl))) (fun _ _ _ _ _ => pts_one (pt_cmp (pc_din (hu_of hr) (pv 3) (pv 1)) rfl)) (fun _ _ _ _ _ => (pv 3))) pa_nil))))), body_ok (N := N_moved_in) h fun x hp => ?_⟩
  show DS _ [.d (dTab x), .un, .un, .un] _
  have h1 := hp.pl
  have h2 := web_len hp
  apply ds_seq
  apply ds_set (d := .dic (mergeD [] ((web x).map fun e => (e.2, .bl true))))
  · apply dv_cb
    · repeat' walk_at "s"
      refine dl_lcE0 (web x) dPr (fun e => [(2, dPr e)]) id (fun e => .tup [.int e.2, .bl true]) (di_tup (d := dWeb (web x)) ?_ rfl) (fun _ _ => dg_name) (fun _ _ => rfl) (fun m _ => ?_) (by omega)
      all_goals repeat' walk_at "s"
    · rw [List.map_id]
      exact (cm_dictPK (xs := web x) _ _ _ fun _ => rfl).v
  apply ds_ret
  · repeat' walk_at "s"
    · refine dl_lcE x.1 D.int (fun p => [(3, .int p)]) (fun p => isMoved x p) id D.int (di_tup (d := dFI x.1) ?_ rfl) (fun _ _ => dg_name) (fun _ _ => rfl) (fun p _ => ?_) (fun p _ _ => ?_) (by omega)
      · repeat' walk_at "s"
      · apply DT.cast
        · repeat' walk_at "s"
        · rw [merge_any0, List.any_map] <;> rfl
      · repeat' walk_at "s"
    all_goals repeat' walk_at "s"
  · rw [List.map_id] <;> rfl
theorem cl_moved_in {T : Tab} (h : DA tr sl [dTab T]) (hw : WF T) : DV (tCall sp_moved_in [] E tr) sl (dTI (moved T)) := dv_call0 (enc := fun x : Tab => [dTab x]) T h hw
local macro_rules | `(tactic| walk_at "s") => `(tactic| with_reducible apply cl_moved_in)
theorem items_seq {d : D} {xs : List D} (h : d.items = some xs) : d.seq = some xs := by
  cases d with
  | tup => exact h
  | tuf => exact h
  | non => cases h
  | bl => cases h
  | int => cases h
  | str => cases h
  | lst => cases h
  | dic => cases h
theorem rows_get (T : Tab) (m : Int) : getD' (rowsD T) m = (T.2.find? fun x => decide (x.1 = m)).map fun x => dRow x.2 := by
  unfold getD' rowsD
  rw [List.find?_map, Option.map_map] <;> rfl
theorem rowOf_none {T : Tab} {m : Int} (h : (getD' (rowsD T) m).isSome = false) : rowOf T m = [] := by
  rw [rows_get, Option.isSome_map] at h
  unfold rowOf
  cases e : T.2.find? fun x => decide (x.1 = m) with
  | none => rfl
  | some x =>
    rw [e] at h
    cases h
theorem rows_some {T : Tab} {m : Int} (h : (getD' (rowsD T) m).isSome = true) : getD' (rowsD T) m = some (dRow (rowOf T m)) := by
  rw [rows_get, Option.isSome_map] at h
  obtain ⟨x, e⟩ := Option.isSome_iff_exists.mp h
  rw [rows_get]
  unfold rowOf
  rw [e] <;> rfl
theorem rowOf_mem {T : Tab} {m : Int} (h : m ∈ movers T) : (m, rowOf T m) ∈ T.2 := by
  obtain ⟨x, hx, e⟩ := List.mem_map.mp h
  obtain ⟨y, hy⟩ := Option.isSome_iff_exists.mp (List.find?_isSome (p := fun x : Int × Row => decide (x.1 = m)).mpr ⟨x, hx, decide_eq_true e⟩)
  have e2 : y.1 = m := of_decide_eq_true (List.find?_some (p := fun x : Int × Row => decide (x.1 = m)) hy)
  have := List.mem_of_find?_eq_some hy
  unfold rowOf
  rw [hy, ← e2]
  exact this
theorem rows_at {T : Tab} {m : Int} (h : m ∈ movers T) : getD' (rowsD T) m = some (dRow (rowOf T m)) := by
  refine rows_some ?_
  rw [rows_get, Option.isSome_map]
  obtain ⟨x, hx, e⟩ := List.mem_map.mp h
  exact List.find?_isSome.mpr ⟨x, hx, decide_eq_true e⟩
theorem rowOf_len {T : Tab} (h : WF T) (m : Int) : (rowOf T m).length ≤ 5 := by
  unfold rowOf
  cases e : T.2.find? fun x => decide (x.1 = m) with
  | none => exact Nat.zero_le _
  | some x => exact (h.mv x (List.mem_of_find?_eq_some e)).ln
end
end Wa
set_option maxHeartbeats 4000000
namespace Wa
open PySem PySem.Spec PyProof.Rows L2
local macro_rules | `(tactic| walk_at "s") => `(tactic| first
  | with_reducible exact dv_int | with_reducible exact dv_bl | with_reducible exact dv_str | with_reducible exact dv_non
  | ((with_reducible apply dv_var); first | rfl | (show _ = _; assumption))
  | with_reducible apply dv_op
  | with_reducible apply da_cons | with_reducible exact da_nil
  | with_reducible apply dv_tup2 | with_reducible apply dv_tup1 | with_reducible apply dv_tup3 | with_reducible exact dv_tup0
  | with_reducible apply dv_isN | with_reducible apply dv_notN
  | with_reducible apply dt_test | with_reducible apply dt_B | with_reducible exact dt_yes
  | with_reducible apply (dt_and ?_ fun _ => ?_) | with_reducible apply (dt_or ?_ fun _ => ?_) | with_reducible apply dt_not
  | with_reducible apply (dv_and ?_ fun _ => ?_) | with_reducible apply dv_not
  | with_reducible apply (dv_chain (g := D.non) ?_ ?_ ?_ (fun _ => ?_) (fun _ => ?_))
  | with_reducible exact ov_I0 | with_reducible exact ov_B0 | ((with_reducible apply ov_I); first | (show 0 < _; omega) | (unfold CDiv; omega) | (unfold CMul; omega) | (unfold CDivN; omega) | skip)
  | with_reducible exact ov_eqI | with_reducible exact ov_neI | with_reducible exact ov_eqB | with_reducible exact ov_eqS | with_reducible exact ov_notB
  | with_reducible exact ov_isN | with_reducible exact ov_notN
  | with_reducible apply dv_neg
  | with_reducible apply dv_isInt | with_reducible apply dv_isBool
  | with_reducible apply dv_cb
  | (with_reducible exact cv_tupleK) | (with_reducible exact cv_tupF) | (with_reducible exact cv_intK) | (with_reducible exact cv_sum) | (with_reducible exact cv_all) | (with_reducible exact cv_any) | ((with_reducible apply cv_lenK); rfl)
  | (exact ov_ixT rfl rfl) | (exact ov_ixL rfl)
  | with_reducible apply dv_din | with_reducible apply dv_dnotin
  | (show D.items _ = some _; rfl) | (show D.seq _ = some _; rfl) | ((show WF _); assumption))
local macro_rules | `(tactic| walk_at "s") => `(tactic| first | with_reducible apply cl_power_in | with_reducible apply cl_size_in | with_reducible apply cl_weight_of | with_reducible apply cl_rows_in | with_reducible apply cl_web_in | with_reducible apply cl_movers_in | with_reducible apply cl_moved_in )
section
variable {P : Program} {w : World} {K : PySem.W.Frag} {mg : Str → Option Value} {base : Heap} {f : Addr} {fd : FuncData} {tv : Value} {sl : List Sl} {tr : TA} {E : XK}

abbrev s_still_in : Stmt := topS 9
abbrev N_still_in : List Str := ["table", "gone", "pair", "prime"]
theorem sc_still_in : FnScope N_still_in ["table"] (defScope s_still_in) := ⟨rfl, rfl, rfl, by decide +kernel, rfl, by decide +kernel, by decide +kernel⟩
def sp_still_in : Sp := spF (fun x : Tab => [dTab x]) WF (fun x => dTI (still x))
theorem ok_still_in (D_web_in : Def P w K mg base "web_in" ["table"] [] 1 sp_web_in) (B : Blt mg tv) (F : Fun K "still_in" "still_in" s_still_in f fd) : FnOk P w K mg base CX0 2 f fd ["table"] sp_still_in := by
  have nd := sc_still_in.nd
  refine F.ok (k := 1) sc_still_in (fun vs H Q E h => spF_len (n:=1) (fun _ => rfl) h) (fun cdv A outer s H vs Q E hr h => ?_)
  refine ⟨_, (pss_cons (ps_set (i := 1) nd rfl (Or.inr rfl) (pe_callTy (call_dictPK K rfl) (by rfl) B.dict_ (by decide +kernel) (pa_cons (pe_op op_cat (pe_lc (own := [("pair", 2)]) rfl nd (pi_tupK K (pe_def D_web_in (hr.mono (by decide)) (by rfl) (pa_cons (pv 0) pa_nil))) (blkOk_by (N := N_still_in) (sc := (defScope s_still_in)) (by decide +kernel)) (fun _ _ _ _ _ => (pg_name (i := 2) nd rfl (Or.inl rfl))) (fun _ _ _ _ _ => pts_nil) (fun _ _ _ _ _ => (pe_tup (pa_cons (pe_ix (ix_tupK K) (pv 2) pe_int (fun _ _ => rfl)) (pa_cons pe_bl pa_nil))))) (pe_lc (own := [("pair", 2)]) rfl nd (pi_tupK K (pe_def D_web_in (hr.mono (by decide)) (by rfl) (pa_cons (pv 0) pa_nil))) (blkOk_by (N := N_still_in) (sc := (defScope s_still_in)) (by decide +kernel)) (fun _ _ _ _ _ => (pg_name (i := 2) nd rfl (Or.inl rfl))) (fun _ _ _ _ _ => pts_nil) (fun _ _ _ _ _ => (pe_tup (pa_cons (pe_ix (ix_tupK K) (pv 2) pe_int (fun _ _ => rfl)) (pa_cons pe_bl pa_nil)))))) pa_nil)))
      (pss_one (ps_ret (pe_callTy (call_tupleK K) (by rfl) B.tuple_ (by decide +kernel) (pa_cons (pe_lc (own := [("prime", 3)]) rfl nd (pi_tupK K (pe_ix (ix_tupK K) (pv 0) pe_int (fun _ _ => rfl))) (blkOk_by (N := N_still_in) (sc := (defScope s_still_in)) (by decide +kernel)) (fun _ _ _ _ _ => (pg_name (i := 3) nd rfl (Or.inl rfl))) (fun _ _ _ _ _ => pts_one (pt_cmp (pc_dnotin (hu_of hr) (pv 3) (pv 1)) rfl)) (fun _ _ _ _ _ => (pv 3))) pa_nil))))), body_ok (N := N_still_in) h fun x hp => ?_⟩
  show DS _ [.d (dTab x), .un, .un, .un] _
  have h1 := hp.pl
  have h2 := web_len hp
  apply ds_seq
  apply ds_set (d := .dic (mergeD [] ((((web x).map (·.1)) ++ ((web x).map (·.2))).map fun k => (k, .bl true))))
  · apply dv_cb
    · apply da_cons (d := .lst ((((web x).map (·.1)).map fun k => .tup [.int k, .bl true]) ++ (((web x).map (·.2)).map fun k => .tup [.int k, .bl true])))
      · apply dv_op
        · refine dl_lcE0 (web x) dPr (fun e => [(2, dPr e)]) (·.1) (fun k => .tup [.int k, .bl true]) (di_tup (d := dWeb (web x)) ?_ rfl) (fun _ _ => dg_name) (fun _ _ => rfl) (fun m _ => ?_) (by omega)
          all_goals repeat' walk_at "s"
        · refine dl_lcE0 (web x) dPr (fun e => [(2, dPr e)]) (·.2) (fun k => .tup [.int k, .bl true]) (di_tup (d := dWeb (web x)) ?_ rfl) (fun _ _ => dg_name) (fun _ _ => rfl) (fun m _ => ?_) (by omega)
          all_goals repeat' walk_at "s"
        · exact (ol_cat (by rw [List.length_map, List.length_map, List.length_map, List.length_map]; omega)).v
      · exact da_nil
    · rw [← List.map_append]
      exact (cm_dictPK (xs := (web x).map (·.1) ++ (web x).map (·.2)) _ _ _ fun _ => rfl).v
  apply ds_ret
  · repeat' walk_at "s"
    · refine dl_lcE x.1 D.int (fun p => [(3, .int p)]) (fun p => !(isMover x p || isMoved x p)) id D.int (di_tup (d := dFI x.1) ?_ rfl) (fun _ _ => dg_name) (fun _ _ => rfl) (fun p _ => ?_) (fun p _ _ => ?_) (by omega)
      · repeat' walk_at "s"
      · apply DT.cast
        · repeat' walk_at "s"
        · rw [merge_any0, List.any_map, List.any_append, List.any_map, List.any_map] <;> rfl
      · repeat' walk_at "s"
    all_goals repeat' walk_at "s"
  · rw [List.map_id] <;> rfl
theorem cl_still_in {T : Tab} (h : DA tr sl [dTab T]) (hw : WF T) : DV (tCall sp_still_in [] E tr) sl (dTI (still T)) := dv_call0 (enc := fun x : Tab => [dTab x]) T h hw
local macro_rules | `(tactic| walk_at "s") => `(tactic| with_reducible apply cl_still_in)

abbrev s_moved_by : Stmt := topS 10
abbrev N_moved_by : List Str := ["table", "mover", "late", "root"]
theorem sc_moved_by : FnScope N_moved_by ["table", "mover"] (defScope s_moved_by) := ⟨rfl, rfl, rfl, by decide +kernel, rfl, by decide +kernel, by decide +kernel⟩
def movedBy (T : Tab) (m : Int) : List Int := (rowOf T m).map (·.1)
def sp_moved_by : Sp := spF (fun x : Tab × Int => [dTab x.1, .int x.2]) (fun x => WF x.1) (fun x => dTI (movedBy x.1 x.2))
theorem ok_moved_by (D_rows_in : Def P w K mg base "rows_in" ["table"] [] 1 sp_rows_in) (B : Blt mg tv) (F : Fun K "moved_by" "moved_by" s_moved_by f fd) : FnOk P w K mg base CX0 2 f fd ["table", "mover"] sp_moved_by := by
  have nd := sc_moved_by.nd
  refine F.ok (k := 1) sc_moved_by (fun vs H Q E h => spF_len (n:=2) (fun _ => rfl) h) (fun cdv A outer s H vs Q E hr h => ?_)
  refine ⟨_, (pss_one (ps_ret (pe_ifExp (pt_cmp (pc_din (hu_of hr) (pv 1) (pe_def D_rows_in (hr.mono (by decide)) (by rfl) (pa_cons (pv 0) pa_nil))) rfl) (pe_callTy (call_tupleK K) (by rfl) B.tuple_ (by decide +kernel) (pa_cons (pe_lc (own := [("late", 2), ("root", 3)]) rfl nd (pi_tupK K (pe_dget (hu_of hr) (pe_def D_rows_in (hr.mono (by decide)) (by rfl) (pa_cons (pv 0) pa_nil)) (pv 1) (fun _ _ => rfl))) (blkOk_by (N := N_moved_by) (sc := (defScope s_moved_by)) (by decide +kernel)) (fun _ _ _ _ _ => (pg_tupK (n := 2) K rfl (pgs_cons (pg_name (i := 2) nd rfl (Or.inl rfl)) (pgs_cons (pg_name (i := 3) nd rfl (Or.inl rfl)) pgs_nil)))) (fun _ _ _ _ _ => pts_nil) (fun _ _ _ _ _ => (pv 2))) pa_nil)) (pe_tup pa_nil)))), body_ok (N := N_moved_by) h fun x hp => ?_⟩
  obtain ⟨T, m⟩ := x
  have hw : WF T := hp
  show DS _ [.d (dTab T), .d (.int m), .un, .un] _
  have h1 := rowOf_len hw m
  apply ds_ret (d := dTI (movedBy T m))
  · apply dv_if
    · repeat' walk_at "s"
    · intro hb
      have h2 := rows_some hb
      apply dv_cb
      · apply da_cons
        · refine dl_lcE0 (rowOf T m) dPr (fun e => [(2, .int e.1), (3, .int e.2)]) (·.1) D.int (di_tup (d := dRow (rowOf T m)) (dv_dget (ds := rowsD T) (k := m) ?_ ?_ h2) rfl) (fun _ _ => dg_tup rfl (dgs_cons (dgs_cons dgs_nil))) (fun _ _ => rfl) (fun m _ => ?_) (by omega)
          all_goals repeat' walk_at "s"
        · exact da_nil
      · exact cv_tupleK
    · intro hb
      refine DV.cast dv_tup0 ?_
      show D.tup [] = D.tup (List.map D.int ((rowOf T m).map _))
      rw [rowOf_none hb] <;> rfl
  · rfl
theorem cl_moved_by {T : Tab} {m : Int} (h : DA tr sl [dTab T, .int m]) (hw : WF T) : DV (tCall sp_moved_by [] E tr) sl (dTI (movedBy T m)) := dv_call0 (enc := fun x : Tab × Int => [dTab x.1, .int x.2]) (T, m) h hw
local macro_rules | `(tactic| walk_at "s") => `(tactic| with_reducible apply cl_moved_by)

abbrev s_movers_on : Stmt := topS 11
abbrev N_movers_on : List Str := ["table", "prime", "pair"]
theorem sc_movers_on : FnScope N_movers_on ["table", "prime"] (defScope s_movers_on) := ⟨rfl, rfl, rfl, by decide +kernel, rfl, by decide +kernel, by decide +kernel⟩
def sp_movers_on : Sp := spF (fun x : Tab × Int => [dTab x.1, .int x.2]) (fun x => WF x.1) (fun x => dTI (moversOn x.1 x.2))
theorem ok_movers_on (D_web_in : Def P w K mg base "web_in" ["table"] [] 1 sp_web_in) (B : Blt mg tv) (F : Fun K "movers_on" "movers_on" s_movers_on f fd) : FnOk P w K mg base CX0 2 f fd ["table", "prime"] sp_movers_on := by
  have nd := sc_movers_on.nd
  refine F.ok (k := 1) sc_movers_on (fun vs H Q E h => spF_len (n:=2) (fun _ => rfl) h) (fun cdv A outer s H vs Q E hr h => ?_)
  refine ⟨_, (pss_one (ps_ret (pe_callTy (call_tupleK K) (by rfl) B.tuple_ (by decide +kernel) (pa_cons (pe_lc (own := [("pair", 2)]) rfl nd (pi_tupK K (pe_def D_web_in (hr.mono (by decide)) (by rfl) (pa_cons (pv 0) pa_nil))) (blkOk_by (N := N_movers_on) (sc := (defScope s_movers_on)) (by decide +kernel)) (fun _ _ _ _ _ => (pg_name (i := 2) nd rfl (Or.inl rfl))) (fun _ _ _ _ _ => pts_one (pt_cmpR op_eq (pe_ix (ix_tupK K) (pv 2) pe_int (fun _ _ => rfl)) (pv 1) (nomark _))) (fun _ _ _ _ _ => (pe_ix (ix_tupK K) (pv 2) pe_int (fun _ _ => rfl)))) pa_nil)))), body_ok (N := N_movers_on) h fun x hp => ?_⟩
  obtain ⟨T, q⟩ := x
  have hw : WF T := hp
  show DS _ [.d (dTab T), .d (.int q), .un] _
  have h1 := web_len hw
  apply ds_ret
  · repeat' walk_at "s"
    · refine dl_lcE (web T) dPr (fun e => [(2, dPr e)]) (fun e => decide (e.2 = q)) (·.1) D.int (di_tup (d := dWeb (web T)) ?_ rfl) (fun _ _ => dg_name) (fun _ _ => rfl) (fun p _ => ?_) (fun p _ _ => ?_) (by omega)
      all_goals repeat' walk_at "s"
    all_goals repeat' walk_at "s"
  · rfl
theorem cl_movers_on {T : Tab} {q : Int} (h : DA tr sl [dTab T, .int q]) (hw : WF T) : DV (tCall sp_movers_on [] E tr) sl (dTI (moversOn T q)) := dv_call0 (enc := fun x : Tab × Int => [dTab x.1, .int x.2]) (T, q) h hw
local macro_rules | `(tactic| walk_at "s") => `(tactic| with_reducible apply cl_movers_on)
theorem moversOn_len {T : Tab} (h : WF T) (q : Int) : (moversOn T q).length ≤ 25 := by
  have := web_len h
  have := List.length_filter_le (fun e : Pr => decide (e.2 = q)) (web T)
  unfold moversOn
  rw [List.length_map]
  omega

abbrev s_struck_by : Stmt := topS 17
abbrev N_struck_by : List Str := ["table", "movers", "prime", "late"]
theorem sc_struck_by : FnScope N_struck_by ["table", "movers"] (defScope s_struck_by) := ⟨rfl, rfl, rfl, by decide +kernel, rfl, by decide +kernel, by decide +kernel⟩
def sp_struck_by : Sp := spF (fun x : Tab × List Int => [dTab x.1, dTI x.2]) (fun x => WF x.1) (fun x => dTI (struck x.1 x.2))
theorem ok_struck_by (D_moved_in : Def P w K mg base "moved_in" ["table"] [] 2 sp_moved_in) (D_movers_on : Def P w K mg base "movers_on" ["table", "prime"] [] 2 sp_movers_on) (B : Blt mg tv) (F : Fun K "struck_by" "struck_by" s_struck_by f fd) : FnOk P w K mg base CX0 3 f fd ["table", "movers"] sp_struck_by := by
  have nd := sc_struck_by.nd
  refine F.ok (k := 2) sc_struck_by (fun vs H Q E h => spF_len (n:=2) (fun _ => rfl) h) (fun cdv A outer s H vs Q E hr h => ?_)
  refine ⟨_, (pss_one (ps_ret (pe_callTy (call_tupleK K) (by rfl) B.tuple_ (by decide +kernel) (pa_cons (pe_lc (own := [("prime", 2)]) rfl nd (pi_tupK K (pe_def D_moved_in (hr.mono (by decide)) (by rfl) (pa_cons (pv 0) pa_nil))) (blkOk_by (N := N_struck_by) (sc := (defScope s_struck_by)) (by decide +kernel)) (fun _ _ _ _ _ => (pg_name (i := 2) nd rfl (Or.inl rfl))) (fun _ _ _ _ _ => pts_one (pt_val (pe_callB (cr_anyK K rfl) (by rfl) B.any_ (by decide +kernel) (pa_cons (pe_lc (own := [("late", 3)]) rfl nd (pi_tupK K (pe_def D_movers_on (hr.mono (by decide)) (by rfl) (pa_cons (pv 0) (pa_cons (pv 2) pa_nil)))) (blkOk_by (N := N_struck_by) (sc := (relS _ (defScope s_struck_by))) (by decide +kernel)) (fun _ _ _ _ _ => (pg_name (i := 3) nd rfl (Or.inl rfl))) (fun _ _ _ _ _ => pts_nil) (fun _ _ _ _ _ => (pe_cmpR (op_inK K) (pv 3) (pv 1) (rfl)))) pa_nil)))) (fun _ _ _ _ _ => (pv 2))) pa_nil)))), body_ok (N := N_struck_by) h fun x hp => ?_⟩
  obtain ⟨T, ms⟩ := x
  have hw : WF T := hp
  show DS _ [.d (dTab T), .d (dTI ms), .un, .un] _
  have h1 := hw.pl
  have h2 : (moved T).length ≤ 5 := Nat.le_trans (List.length_filter_le _ _) h1
  apply ds_ret
  · repeat' walk_at "s"
    · refine dl_lcE (moved T) D.int (fun e => [(2, .int e)]) (fun q => (moversOn T q).any fun p => decide (p ∈ ms)) id D.int (di_tup (d := dTI (moved T)) ?_ rfl) (fun _ _ => dg_name) (fun _ _ => rfl) (fun q _ => ?_) (fun p _ _ => ?_) (by omega)
      · repeat' walk_at "s"
      · have h3 := moversOn_len hw q
        apply DT.cast
        · apply dt_test
          apply dv_cb
          · apply da_cons
            · refine dl_lcE0 (moversOn T q) D.int (fun e => [(3, .int e)]) (fun p => decide (p ∈ ms)) D.bl (di_tup (d := dTI (moversOn T q)) ?_ rfl) (fun _ _ => dg_name) (fun _ _ => rfl) (fun m _ => ?_) (by omega)
              · repeat' walk_at "s"
              · apply dv_op
                · repeat' walk_at "s"
                · repeat' walk_at "s"
                · exact ov_in rfl
            · exact da_nil
          · exact cv_any
        · rw [List.any_map] <;> rfl
      · repeat' walk_at "s"
    all_goals repeat' walk_at "s"
  · rw [List.map_id] <;> rfl
theorem cl_struck_by {T : Tab} {ms : List Int} (h : DA tr sl [dTab T, dTI ms]) (hw : WF T) : DV (tCall sp_struck_by [] E tr) sl (dTI (struck T ms)) := dv_call0 (enc := fun x : Tab × List Int => [dTab x.1, dTI x.2]) (T, ms) h hw
local macro_rules | `(tactic| walk_at "s") => `(tactic| with_reducible apply cl_struck_by)

abbrev s_subsets_of : Stmt := topS 14
abbrev N_subsets_of : List Str := ["primes", "found", "prime", "each"]
theorem sc_subsets_of : FnScope N_subsets_of ["primes"] (defScope s_subsets_of) := ⟨rfl, rfl, rfl, by decide +kernel, rfl, by decide +kernel, by decide +kernel⟩
def sp_subsets_of : Sp := spF (fun x : D × List Int => [x.1]) (fun x => x.1.seq = some (x.2.map D.int) ∧ x.2.length ≤ 5) (fun x => .lst ((subsets x.2).map dTI))
theorem subsets_snoc (ns : List Int) (n : Int) : subsets (ns ++ [n]) = subsets ns ++ (subsets ns).map (· ++ [n]) := List.foldl_append ..
theorem subsets_len : ∀ ns : List Int, (subsets ns).length = 2 ^ ns.length := fun ns => by
  have go : ∀ (ns : List Int) (acc : List (List Int)), (ns.foldl (fun acc p => acc ++ acc.map (· ++ [p])) acc).length = acc.length * 2 ^ ns.length := fun ns => by
    induction ns with
    | nil => exact fun acc => (Nat.mul_one _).symm
    | cons n ns ih =>
      intro acc
      rw [List.foldl_cons, ih, List.length_append, List.length_map, List.length_cons, Nat.pow_succ, ← Nat.two_mul, Nat.mul_comm 2, Nat.mul_assoc, Nat.mul_comm 2]
  exact (go ns [[]]).trans (Nat.one_mul _)
theorem subsets_sub : ∀ (ns : List Int), ∀ s ∈ subsets ns, s.Sublist ns := fun ns => by
  have go : ∀ (ns pre : List Int) (acc : List (List Int)), (∀ s ∈ acc, s.Sublist pre) → ∀ s ∈ ns.foldl (fun acc p => acc ++ acc.map (· ++ [p])) acc, s.Sublist (pre ++ ns) := fun ns => by
    induction ns with
    | nil => exact fun pre acc h s hs => by rw [List.append_nil]; exact h s hs
    | cons n ns ih =>
      intro pre acc h s hs
      have := ih (pre ++ [n]) (acc ++ acc.map (· ++ [n])) (fun s hs => by
        rcases List.mem_append.mp hs with q | q
        · exact (h s q).trans (List.sublist_append_left _ _)
        · obtain ⟨t, ht, rfl⟩ := List.mem_map.mp q
          exact (h t ht).append (List.Sublist.refl _)) s hs
      rwa [List.append_assoc, List.singleton_append] at this
  exact go ns [] [[]] (fun s hs => by rw [List.mem_singleton.mp hs]; exact List.Sublist.refl _)
theorem ok_subsets_of  (F : Fun K "subsets_of" "subsets_of" s_subsets_of f fd) : FnOk P w K mg base CX0 1 f fd ["primes"] sp_subsets_of := by
  have nd := sc_subsets_of.nd
  refine F.ok (k := 0) sc_subsets_of (fun vs H Q E h => spF_len (n:=1) (fun _ => rfl) h) (fun cdv A outer s H vs Q E hr h => ?_)
  refine ⟨_, (pss_cons (ps_set (i := 1) nd rfl (Or.inl rfl) (pe_lst (pa_cons (pe_tup pa_nil) pa_nil)))
      (pss_cons (ps_for PassesOwn.never rfl (pi_or (pi_listK K (pv 0)) (pi_tupK K (pv 0))) (pg_name (i := 2) nd rfl (Or.inr rfl)) (pss_one (ps_set (i := 1) nd rfl (Or.inl rfl) (pe_op op_cat (pv 1) (pe_lc (own := [("each", 3)]) rfl nd (pi_listK K (pv 1)) (blkOk_by (N := N_subsets_of) (sc := (defScope s_subsets_of)) (by decide +kernel)) (fun _ _ _ _ _ => (pg_name (i := 3) nd rfl (Or.inl rfl))) (fun _ _ _ _ _ => pts_nil) (fun _ _ _ _ _ => (pe_op (op_catAK K) (pv 3) (pe_tup (pa_cons (pv 2) pa_nil)))))))))
      (pss_one (ps_ret (pv 1))))), body_ok (N := N_subsets_of) h fun x hp => ?_⟩
  obtain ⟨d, ns⟩ := x
  obtain ⟨h1, h2⟩ := hp
  have h2 : ns.length ≤ 5 := h2
  show DS _ [.d d, .un, .un, .un] _
  apply ds_seq
  apply ds_set (d := .lst ((subsets (ns.take 0)).map dTI))
  · exact (dl_lst (da_cons dv_tup0 da_nil) (by simp)).v
  apply ds_seq
  refine ds_for ns D.int (fun n => [(2, .int n)]) (fun i s => ∃ a b, s = [.d d, .d (.lst ((subsets (ns.take i)).map dTI)), a, b]) (di_seq (dv_var rfl) h1) (fun _ _ => dg_name) ⟨_, _, rfl⟩ ?_ ?_
  · rintro i n s hi ⟨a, b, rfl⟩
    have hl : (subsets (ns.take i)).length ≤ 32 := by
      rw [subsets_len]
      exact Nat.pow_le_pow_right (n := 2) (by decide) (show _ ≤ 5 by rw [List.length_take]; omega)
    have hs : ∀ e ∈ subsets (ns.take i), e.length ≤ 5 := fun e he => by
      have := (subsets_sub _ e he).length_le
      rw [List.length_take] at this
      omega
    apply ds_set (d := .lst ((subsets (ns.take (i + 1))).map dTI))
    · rw [take_snoc hi, subsets_snoc, List.map_append]
      apply dv_op
      · repeat' walk_at "s"
      · refine dl_lcE0 (subsets (ns.take i)) dTI (fun e => [(3, dTI e)]) (· ++ [n]) dTI (di_list ?_) (fun _ _ => dg_name) (fun _ _ => rfl) (fun m hm => ?_) (by omega)
        · repeat' walk_at "s"
        · have := hs m hm
          apply DV.cast
          · apply dv_op
            · repeat' walk_at "s"
            · repeat' walk_at "s"
            · exact ov_catA rfl rfl (by simp; omega)
          · rw [← List.map_singleton (f := D.int), ← List.map_append]
      · exact (ol_cat (by simp; omega)).v
    · exact ⟨_, _, rfl⟩
  · rintro s ⟨a, b, rfl⟩
    apply ds_ret
    · repeat' walk_at "s"
    · rw [List.take_length]
theorem cl_subsets_of {d : D} {ns : List Int} (h : DA tr sl [d]) (hs : d.seq = some (ns.map D.int)) (hl : ns.length ≤ 5) : DV (tCall sp_subsets_of [] E tr) sl (.lst ((subsets ns).map dTI)) := dv_call0 (enc := fun x : D × List Int => [x.1]) (d, ns) h ⟨hs, hl⟩
local macro_rules | `(tactic| walk_at "s") => `(tactic| with_reducible apply cl_subsets_of)
end
end Wa
set_option maxHeartbeats 4000000
namespace Wa
open PySem PySem.Spec PyProof.Rows L2
local macro_rules | `(tactic| walk_at "s") => `(tactic| first
  | with_reducible exact dv_int | with_reducible exact dv_bl | with_reducible exact dv_str | with_reducible exact dv_non
  | ((with_reducible apply dv_var); first | rfl | (show _ = _; assumption))
  | with_reducible apply dv_op
  | with_reducible apply da_cons | with_reducible exact da_nil
  | with_reducible apply dv_tup2 | with_reducible apply dv_tup1 | with_reducible apply dv_tup3 | with_reducible exact dv_tup0
  | with_reducible apply dv_isN | with_reducible apply dv_notN
  | with_reducible apply dt_test | with_reducible apply dt_B | with_reducible exact dt_yes
  | with_reducible apply (dt_and ?_ fun _ => ?_) | with_reducible apply (dt_or ?_ fun _ => ?_) | with_reducible apply dt_not
  | with_reducible apply (dv_and ?_ fun _ => ?_) | with_reducible apply dv_not
  | with_reducible apply (dv_chain (g := D.non) ?_ ?_ ?_ (fun _ => ?_) (fun _ => ?_))
  | with_reducible exact ov_I0 | with_reducible exact ov_B0 | ((with_reducible apply ov_I); first | (show 0 < _; omega) | (unfold CDiv; omega) | (unfold CMul; omega) | (unfold CDivN; omega) | skip)
  | with_reducible exact ov_eqI | with_reducible exact ov_neI | with_reducible exact ov_eqB | with_reducible exact ov_eqS | with_reducible exact ov_notB
  | with_reducible exact ov_isN | with_reducible exact ov_notN
  | with_reducible apply dv_neg
  | with_reducible apply dv_isInt | with_reducible apply dv_isBool
  | with_reducible apply dv_cb
  | (with_reducible exact cv_tupleK) | (with_reducible exact cv_tupF) | (with_reducible exact cv_intK) | (with_reducible exact cv_sum) | (with_reducible exact cv_all) | (with_reducible exact cv_any) | ((with_reducible apply cv_lenK); rfl)
  | (exact ov_ixT rfl rfl) | (exact ov_ixL rfl)
  | with_reducible apply dv_din | with_reducible apply dv_dnotin
  | (show D.items _ = some _; rfl) | (show D.seq _ = some _; rfl) | ((show WF _); assumption))
local macro_rules | `(tactic| walk_at "s") => `(tactic| first | with_reducible apply cl_power_in | with_reducible apply cl_size_in | with_reducible apply cl_weight_of | with_reducible apply cl_rows_in | with_reducible apply cl_web_in | with_reducible apply cl_movers_in | with_reducible apply cl_moved_in | with_reducible apply cl_still_in | with_reducible apply cl_moved_by | with_reducible apply cl_movers_on | with_reducible apply cl_struck_by | with_reducible apply cl_subsets_of )
theorem atI_nat {α : Type} {xs : List α} {i : Nat} {x : α} (h : xs[i]? = some x) : atI xs (i : Int) = some x := by
  obtain ⟨hl, _⟩ := List.getElem?_eq_some_iff.mp h
  unfold atI ixN
  rw [if_pos (Int.natCast_nonneg i), if_pos (Int.ofNat_lt.mpr hl)]
  exact h
theorem spM_len {α : Type} {enc : α → List D} {pre : α → Prop} {res : α → Option (List (Int × D))} {n : Nat} (hn : ∀ x, (enc x).length = n) {vs : List V} {H : Hp} {Q : VK} {E : XK} (h : spM enc pre res vs H Q E) : vs.length = n := by
  obtain ⟨G, x, _, r, _⟩ := h
  rw [r.length, hn]
theorem eqPr : EqOk dPr 1 := eqInt.pair eqInt
theorem eqRow : EqOk dRow 2 := eqPr.tuf
theorem eqWeb : EqOk dWeb 2 := eqPr.tup
theorem eqFI : EqOk dFI 1 := eqInt.tuf
theorem eqTI : EqOk dTI 1 := eqInt.tup
theorem eqMv : EqOk dMv 3 := eqInt.pair eqRow
theorem eqTab : EqOk dTab 5 := eqFI.pair eqMv.tuf
theorem py_tt (xs : List D) : (D.tup xs).py = (D.tuf xs).py := by rw [D.py, D.py]
theorem nd_tt (xs : List D) : (D.tup xs).nd = (D.tuf xs).nd := by rw [D.nd, D.nd]
theorem py_items {d : D} {xs : List D} (h : d.items = some xs) : d.py = (D.tup xs).py ∧ d.nd = (D.tup xs).nd := by
  cases d with
  | tup =>
    cases h
    exact ⟨rfl, rfl⟩
  | tuf =>
    cases h
    exact ⟨(py_tt _).symm, (nd_tt _).symm⟩
  | non => cases h
  | bl => cases h
  | int => cases h
  | str => cases h
  | lst => cases h
  | dic => cases h
section
variable {K : PySem.W.Frag} {d e : D}
/-- == of two tuples, weak or strong -/
theorem ov_eqT {α : Type} [DecidableEq α] {E : α → D} {n : Nat} (h : EqOk E n) (hn : n + 1 ≤ 60) {a b : List α} (ha : d.items = some (a.map E)) (hb : e.items = some (b.map E)) : OV (rEqD K) d e (.bl (decide (a = b))) :=
  ov_eqD h.tup hn (py_items ha).1 ((py_items ha).2.trans (h.tup.nd a)) (py_items hb).1 ((py_items hb).2.trans (h.tup.nd b))
theorem ov_neT {α : Type} [DecidableEq α] {E : α → D} {n : Nat} (h : EqOk E n) (hn : n + 1 ≤ 60) {a b : List α} (ha : d.items = some (a.map E)) (hb : e.items = some (b.map E)) : OV (rNeD K) d e (.bl (!decide (a = b))) :=
  ov_neD h.tup hn (py_items ha).1 ((py_items ha).2.trans (h.tup.nd a)) (py_items hb).1 ((py_items hb).2.trans (h.tup.nd b))
end
theorem rowOf_eq {T : Tab} (h : WF T) {x : Int × Row} (hx : x ∈ T.2) : rowOf T x.1 = x.2 := by
  have go : ∀ ms : List (Int × Row), (ms.map (·.1)).Pairwise (· < ·) → x ∈ ms → ms.find? (fun y => decide (y.1 = x.1)) = some x := fun ms => by
    induction ms with
    | nil => exact fun _ h => by cases h
    | cons m ms ih =>
      intro hs hm
      rw [List.map_cons, List.pairwise_cons] at hs
      rw [List.find?_cons]
      rcases List.mem_cons.mp hm with rfl | q
      · rw [decide_eq_true rfl]
      · have := hs.1 x.1 (List.mem_map.mpr ⟨x, q, rfl⟩)
        rw [decide_eq_false (by omega)]
        exact ih hs.2 q
  unfold rowOf
  rw [go T.2 h.ms hx] <;> rfl
def cutRows (ms : List (Int × Row)) (s : List Int) : List (Int × Row) := (ms.map fun m => (m.1, m.2.filter fun e => decide (e.1 ∈ s))).filter fun m => decide (m.1 ∈ s) && !decide (m.2 = [])
theorem cutRows_snoc (ms : List (Int × Row)) (m : Int × Row) (s : List Int) : cutRows (ms ++ [m]) s = cutRows ms s ++ (if (decide (m.1 ∈ s) && !decide ((m.2.filter fun e => decide (e.1 ∈ s)) = [])) = true then [(m.1, m.2.filter fun e => decide (e.1 ∈ s))] else []) := by
  unfold cutRows
  rw [List.map_append, List.filter_append, List.map_singleton, List.filter_cons, List.filter_nil]
theorem logIn_some {b g p : Int} {most k : Nat} (h : upM b k p = g) (hk : k < most) (hn : ∀ j < k, upM b j p ≠ g) : logIn b g p most = some (k : Int) := by
  unfold logIn
  rw [show (List.range most).find? (fun k => decide (upM b k p = g)) = some k from List.find?_range_eq_some.mpr ⟨decide_eq_true h, List.mem_range.mpr hk, fun j hj => by rw [decide_eq_false (hn j hj)] <;> rfl⟩] <;> rfl
theorem logIn_none {b g p : Int} {most : Nat} (hn : ∀ j < most, upM b j p ≠ g) : logIn b g p most = none := by
  unfold logIn
  rw [show (List.range most).find? (fun k => decide (upM b k p = g)) = none from List.find?_range_eq_none.mpr fun j hj => by rw [decide_eq_false (hn j hj)] <;> rfl] <;> rfl
theorem upM_succ (b p : Int) (k : Nat) : upM b k p * b % p = upM b (k + 1) p := by
  unfold upM
  rw [Int.pow_succ, up_mul]
section
variable {P : Program} {w : World} {K : PySem.W.Frag} {mg : Str → Option Value} {base : Heap} {f : Addr} {fd : FuncData} {tv : Value} {sl : List Sl} {tr : TA} {E : XK}

abbrev s_cut_in : Stmt := topS 12
abbrev N_cut_in : List Str := ["table", "primes", "found", "mover", "row", "late_row", "pair", "prime"]
theorem sc_cut_in : FnScope N_cut_in ["table", "primes"] (defScope s_cut_in) := ⟨rfl, rfl, rfl, by decide +kernel, rfl, by decide +kernel, by decide +kernel⟩
def sp_cut_in : Sp := spF (fun x : Tab × D × List Int => [dTab x.1, x.2.1]) (fun x => WF x.1 ∧ x.2.1.items = some (x.2.2.map D.int)) (fun x => dTab (cut x.1 x.2.2))
theorem ok_cut_in  (B : Blt mg tv) (F : Fun K "cut_in" "cut_in" s_cut_in f fd) : FnOk P w K mg base CX0 1 f fd ["table", "primes"] sp_cut_in := by
  have nd := sc_cut_in.nd
  refine F.ok (k := 0) sc_cut_in (fun vs H Q E h => spF_len (n:=2) (fun _ => rfl) h) (fun cdv A outer s H vs Q E hr h => ?_)
  refine ⟨_, (pss_cons (ps_set (i := 2) nd rfl (Or.inl rfl) (pe_lst pa_nil))
      (pss_cons (ps_for PassesOwn.never rfl (pi_tupK K (pe_ix (ix_tupK K) (pv 0) pe_int (fun _ _ => rfl))) (pg_tupK (n := 2) K rfl (pgs_cons (pg_name (i := 3) nd rfl (Or.inl rfl)) (pgs_cons (pg_name (i := 4) nd rfl (Or.inl rfl)) pgs_nil))) (pss_cons (ps_set (i := 5) nd rfl (Or.inl rfl) (pe_callTy (call_tupFK K) (by rfl) B.tuple_ (by decide +kernel) (pa_cons (pe_lc (own := [("pair", 6)]) rfl nd (pi_tupK K (pv 4)) (blkOk_by (N := N_cut_in) (sc := (defScope s_cut_in)) (by decide +kernel)) (fun _ _ _ _ _ => (pg_name (i := 6) nd rfl (Or.inl rfl))) (fun _ _ _ _ _ => pts_one (pt_cmpR (op_inK K) (pe_ix (ix_tupK K) (pv 6) pe_int (fun _ _ => rfl)) (pv 1) (rfl))) (fun _ _ _ _ _ => (pv 6))) pa_nil)))
      (pss_one (ps_if (PW.pt (pw_and (pt_cmpR (op_inK K) (pv 3) (pv 1) (rfl)) (pw_and1 (pt_cmpR (op_neDK K hr.units) (pv 5) (pe_tup pa_nil) (nomark _))))) (pss_one (ps_expr (pe_bm PySem.F.plainAttrs_list PySem.F.slot_list_append PySem.F.type_list_append mt_append (pv 2) (pa_cons (pe_tup (pa_cons (pv 3) (pa_cons (pv 5) pa_nil))) pa_nil)))) pss_nil))))
      (pss_one (ps_ret (pe_tup (pa_cons (pe_callTy (call_tupFK K) (by rfl) B.tuple_ (by decide +kernel) (pa_cons (pe_lc (own := [("prime", 7)]) rfl nd (pi_tupK K (pe_ix (ix_tupK K) (pv 0) pe_int (fun _ _ => rfl))) (blkOk_by (N := N_cut_in) (sc := (defScope s_cut_in)) (by decide +kernel)) (fun _ _ _ _ _ => (pg_name (i := 7) nd rfl (Or.inl rfl))) (fun _ _ _ _ _ => pts_one (pt_cmpR (op_inK K) (pv 7) (pv 1) (rfl))) (fun _ _ _ _ _ => (pv 7))) pa_nil)) (pa_cons (pe_callTy (call_tupFK K) (by rfl) B.tuple_ (by decide +kernel) (pa_cons (pv 2) pa_nil)) pa_nil))))))), body_ok (N := N_cut_in) h fun x hp => ?_⟩
  obtain ⟨T, d, s⟩ := x
  obtain ⟨hw, hs⟩ := hp
  have hw : WF T := hw
  have hs : d.items = some (s.map D.int) := hs
  have hq := items_seq hs
  show DS _ [.d (dTab T), .d d, .un, .un, .un, .un, .un, .un] _
  have h1 := hw.pl
  have h2 := hw.ml
  apply ds_seq
  apply ds_asgL (xs := (cutRows (T.2.take 0) s).map dMv)
  · exact (show DL _ _ [] from dl_lst da_nil)
  apply ds_seq
  refine ds_for T.2 dMv (fun m => [(3, .int m.1), (4, dRow m.2)]) (fun i t => ∃ a b c, t = [.d (dTab T), .d d, .ml ((cutRows (T.2.take i) s).map dMv), a, b, c, .un, .un]) (di_tup (d := .tuf (T.2.map dMv)) ?_ rfl) (fun _ _ => dg_tup rfl (dgs_cons (dgs_cons dgs_nil))) ⟨_, _, _, rfl⟩ ?_ ?_
  · repeat' walk_at "s"
  · rintro i m t hi ⟨a, b, c, rfl⟩
    have rl := (hw.mv m (mem_at hi)).ln
    have cl : (cutRows (T.2.take i) s).length ≤ 5 := by
      have := List.length_filter_le (fun m : Int × Row => decide (m.1 ∈ s) && !decide (m.2 = [])) ((T.2.take i).map fun m => (m.1, m.2.filter fun e => decide (e.1 ∈ s)))
      rw [List.length_map, List.length_take] at this
      unfold cutRows
      omega
    apply ds_seq
    apply ds_set (d := dRow (m.2.filter fun e => decide (e.1 ∈ s)))
    · apply dv_cb
      · apply da_cons
        · refine dl_lcE m.2 dPr (fun e => [(6, dPr e)]) (fun e => decide (e.1 ∈ s)) id dPr (di_tup (d := dRow m.2) ?_ rfl) (fun _ _ => dg_name) (fun _ _ => rfl) (fun e _ => ?_) (fun p _ _ => ?_) (by omega)
          · repeat' walk_at "s"
          · repeat' walk_at "s"
            exact ov_in hq
          · repeat' walk_at "s"
        · exact da_nil
      · rw [List.map_id]
        exact cv_tupF
    apply ds_if
    · apply dt_and (a := decide (m.1 ∈ s)) (b := !decide ((m.2.filter fun e => decide (e.1 ∈ s)) = []))
      · repeat' walk_at "s"
        exact ov_in hq
      · intro _
        repeat' walk_at "s"
        exact ov_neT eqPr (by decide) rfl rfl
    · intro hb
      apply ds_app (xs := (cutRows (T.2.take i) s).map dMv) rfl
      · repeat' walk_at "s"
      · rw [List.length_map]
        omega
      · exact ⟨_, _, _, by rw [take_snoc hi, cutRows_snoc, if_pos hb, List.map_append] <;> rfl⟩
    · intro hb
      apply ds_nx
      exact ⟨_, _, _, by rw [take_snoc hi, cutRows_snoc, if_neg (by rw [hb]; exact Bool.false_ne_true), List.append_nil] <;> rfl⟩
  · rintro t ⟨a, b, c, rfl⟩
    refine ds_frz 2 rfl ?_
    apply ds_ret
    · apply dv_tup2
      · apply dv_cb
        · apply da_cons
          · refine dl_lcE T.1 D.int (fun e => [(7, .int e)]) (fun e => decide (e ∈ s)) id D.int (di_tup (d := dFI T.1) ?_ rfl) (fun _ _ => dg_name) (fun _ _ => rfl) (fun e _ => ?_) (fun p _ _ => ?_) (by omega)
            · repeat' walk_at "s"
            · repeat' walk_at "s"
              exact ov_in hq
            · repeat' walk_at "s"
          · exact da_nil
        · exact cv_tupF
      · repeat' walk_at "s"
    · rw [List.map_id, List.take_length] <;> rfl
theorem cl_cut_in {T : Tab} {d : D} {s : List Int} (h : DA tr sl [dTab T, d]) (hw : WF T) (hs : d.items = some (s.map D.int)) : DV (tCall sp_cut_in [] E tr) sl (dTab (cut T s)) := dv_call0 (enc := fun x : Tab × D × List Int => [dTab x.1, x.2.1]) (T, d, s) h ⟨hw, hs⟩
local macro_rules | `(tactic| walk_at "s") => `(tactic| with_reducible apply cl_cut_in)

abbrev s_log_in : Stmt := topS 18
abbrev N_log_in : List Str := ["base", "goal", "prime", "most", "found", "k"]
theorem sc_log_in : FnScope N_log_in ["base", "goal", "prime", "most"] (defScope s_log_in) := ⟨rfl, rfl, rfl, by decide +kernel, rfl, by decide +kernel, by decide +kernel⟩
def sp_log_in : Sp := spF (fun x : Int × Int × Int × Int => [.int x.1, .int x.2.1, .int x.2.2.1, .int x.2.2.2]) (fun x => 2 ≤ x.2.2.1 ∧ x.2.2.1 < 10000 ∧ 0 ≤ x.2.2.2 ∧ x.2.2.2 < 10000) (fun x => dOpt (logIn x.1 x.2.1 x.2.2.1 x.2.2.2.toNat))
theorem ok_log_in  (B : Blt mg tv) (F : Fun K "log_in" "log_in" s_log_in f fd) : FnOk P w K mg base CX0 1 f fd ["base", "goal", "prime", "most"] sp_log_in := by
  have nd := sc_log_in.nd
  refine F.ok (k := 0) sc_log_in (fun vs H Q E h => spF_len (n:=4) (fun _ => rfl) h) (fun cdv A outer s H vs Q E hr h => ?_)
  refine ⟨_, (pss_cons (ps_set (i := 4) nd rfl (Or.inl rfl) pe_int)
      (pss_cons (ps_for PassesOwn.never rfl (pi_range1 rfl B.range_ (pa_cons (pv 3) pa_nil)) (pg_name (i := 5) nd rfl (Or.inl rfl)) (pss_cons (ps_if (pt_cmpR op_eq (pv 4) (pv 1) (nomark _)) (pss_one (ps_ret (pv 5))) pss_nil)
      (pss_one (ps_set (i := 4) nd rfl (Or.inl rfl) (pe_op op_mod (pe_op op_mul (pv 4) (pv 0)) (pv 2))))))
      (pss_one (ps_ret pe_non)))), body_ok (N := N_log_in) h fun x hp => ?_⟩
  obtain ⟨b, g, p, m⟩ := x
  obtain ⟨h1, h2, h3, h4⟩ := hp
  dsimp only at h1 h2 h3 h4
  show DS _ [.d (.int b), .d (.int g), .d (.int p), .d (.int m), .un, .un] _
  apply ds_seq
  apply ds_set (d := .int (upM b 0 p))
  · refine DV.cast dv_int ?_
    unfold upM
    rw [Int.pow_zero, Int.emod_eq_of_lt (by omega) (by omega)]
  apply ds_seq
  refine ds_for (List.range m.toNat) (fun i => .int (0 + (i : Int))) (fun i => [(5, .int (0 + (i : Int)))]) (fun i s => ∃ a, s = [.d (.int b), .d (.int g), .d (.int p), .d (.int m), .d (.int (upM b i p)), a] ∧ ∀ j < i, upM b j p ≠ g) (di_rng1 ?_ ⟨by omega, by omega⟩) (fun _ _ => dg_name) ⟨_, rfl, fun j hj => absurd hj (Nat.not_lt_zero _)⟩ ?_ ?_
  · repeat' walk_at "s"
  · rintro i k s hi ⟨a, rfl, hn⟩
    obtain ⟨hk, e⟩ := List.getElem?_eq_some_iff.mp hi
    rw [List.getElem_range] at e
    subst e
    rw [List.length_range] at hk
    have q := upM_lo (b := b) (k := i) h1
    apply ds_seq
    apply ds_if
    · repeat' walk_at "s"
    · intro hb
      apply ds_ret
      · repeat' walk_at "s"
      · show D.int (0 + (i : Int)) = dOpt _
        rw [logIn_some (of_decide_eq_true hb) hk hn, Int.zero_add]
    · intro hb
      apply ds_nx
      apply ds_set
      · repeat' walk_at "s"
      · exact ⟨_, by rw [upM_succ] <;> rfl, fun j hj => by
          by_cases e : j = i
          · rw [e]
            exact of_decide_eq_false hb
          · exact hn j (by omega)⟩
  · rintro s ⟨a, rfl, hn⟩
    rw [List.length_range] at hn
    apply ds_ret
    · repeat' walk_at "s"
    · show D.non = dOpt _
      rw [logIn_none hn]
theorem cl_log_in {b g p m : Int} (h : DA tr sl [.int b, .int g, .int p, .int m]) (hp : 2 ≤ p ∧ p < 10000 ∧ 0 ≤ m ∧ m < 10000) : DV (tCall sp_log_in [] E tr) sl (dOpt (logIn b g p m.toNat)) := dv_call0 (enc := fun x : Int × Int × Int × Int => [.int x.1, .int x.2.1, .int x.2.2.1, .int x.2.2.2]) (b, g, p, m) h hp
local macro_rules | `(tactic| walk_at "s") => `(tactic| with_reducible apply cl_log_in)

abbrev s_row_power : Stmt := topS 21
abbrev N_row_power : List Str := ["row", "k", "late", "root"]
theorem sc_row_power : FnScope N_row_power ["row", "k"] (defScope s_row_power) := ⟨rfl, rfl, rfl, by decide +kernel, rfl, by decide +kernel, by decide +kernel⟩
def rowPow (r : Row) (k : Int) : Row := r.map fun e => (e.1, upM e.2 k.toNat e.1)
def sp_row_power : Sp := spF (fun x : Row × Int => [dRow x.1, .int x.2]) (fun x => 0 ≤ x.2 ∧ x.1.length ≤ 5 ∧ ∀ e ∈ x.1, 2 ≤ e.1 ∧ e.1 < 10000) (fun x => dWeb (rowPow x.1 x.2))
theorem ok_row_power (D_power_in : Def P w K mg base "power_in" ["base", "k", "prime"] [] 1 sp_power_in) (B : Blt mg tv) (F : Fun K "row_power" "row_power" s_row_power f fd) : FnOk P w K mg base CX0 2 f fd ["row", "k"] sp_row_power := by
  have nd := sc_row_power.nd
  refine F.ok (k := 1) sc_row_power (fun vs H Q E h => spF_len (n:=2) (fun _ => rfl) h) (fun cdv A outer s H vs Q E hr h => ?_)
  refine ⟨_, (pss_one (ps_ret (pe_callTy (call_tupleK K) (by rfl) B.tuple_ (by decide +kernel) (pa_cons (pe_lc (own := [("late", 2), ("root", 3)]) rfl nd (pi_tupK K (pv 0)) (blkOk_by (N := N_row_power) (sc := (defScope s_row_power)) (by decide +kernel)) (fun _ _ _ _ _ => (pg_tupK (n := 2) K rfl (pgs_cons (pg_name (i := 2) nd rfl (Or.inl rfl)) (pgs_cons (pg_name (i := 3) nd rfl (Or.inl rfl)) pgs_nil)))) (fun _ _ _ _ _ => pts_nil) (fun _ _ _ _ _ => (pe_tup (pa_cons (pv 2) (pa_cons (pe_def D_power_in (hr.mono (by decide)) (by rfl) (pa_cons (pv 3) (pa_cons (pv 1) (pa_cons (pv 2) pa_nil)))) pa_nil))))) pa_nil)))), body_ok (N := N_row_power) h fun x hp => ?_⟩
  obtain ⟨r, k⟩ := x
  obtain ⟨h1, h2, h3⟩ := hp
  dsimp only at h1 h2 h3
  show DS _ [.d (dRow r), .d (.int k), .un, .un] _
  apply ds_ret
  · apply dv_cb
    · apply da_cons
      · refine dl_lcE0 r dPr (fun e => [(2, .int e.1), (3, .int e.2)]) (fun e => (e.1, upM e.2 k.toNat e.1)) dPr (di_tup (d := dRow r) ?_ rfl) (fun _ _ => dg_tup rfl (dgs_cons (dgs_cons dgs_nil))) (fun _ _ => rfl) (fun e he => ?_) (by omega)
        · repeat' walk_at "s"
        · have := h3 e he
          repeat' walk_at "s"
          exact ⟨h1, this⟩
      · exact da_nil
    · exact cv_tupleK
  · rfl
theorem cl_row_power {r : Row} {k : Int} (h : DA tr sl [dRow r, .int k]) (hp : 0 ≤ k ∧ r.length ≤ 5 ∧ ∀ e ∈ r, 2 ≤ e.1 ∧ e.1 < 10000) : DV (tCall sp_row_power [] E tr) sl (dWeb (rowPow r k)) := dv_call0 (enc := fun x : Row × Int => [dRow x.1, .int x.2]) (r, k) h hp
local macro_rules | `(tactic| walk_at "s") => `(tactic| with_reducible apply cl_row_power)
end
end Wa
set_option maxHeartbeats 4000000
namespace Wa
open PySem PySem.Spec PyProof.Rows L2
local macro_rules | `(tactic| walk_at "s") => `(tactic| first
  | with_reducible exact dv_int | with_reducible exact dv_bl | with_reducible exact dv_str | with_reducible exact dv_non
  | ((with_reducible apply dv_var); first | rfl | (show _ = _; assumption))
  | with_reducible apply dv_op
  | with_reducible apply da_cons | with_reducible exact da_nil
  | with_reducible apply dv_tup2 | with_reducible apply dv_tup1 | with_reducible apply dv_tup3 | with_reducible exact dv_tup0
  | with_reducible apply dv_isN | with_reducible apply dv_notN
  | with_reducible apply dt_test | with_reducible apply dt_B | with_reducible exact dt_yes
  | with_reducible apply (dt_and ?_ fun _ => ?_) | with_reducible apply (dt_or ?_ fun _ => ?_) | with_reducible apply dt_not
  | with_reducible apply (dv_and ?_ fun _ => ?_) | with_reducible apply dv_not
  | with_reducible apply (dv_chain (g := D.non) ?_ ?_ ?_ (fun _ => ?_) (fun _ => ?_))
  | with_reducible exact ov_I0 | with_reducible exact ov_B0 | ((with_reducible apply ov_I); first | (show 0 < _; omega) | (unfold CDiv; omega) | (unfold CMul; omega) | (unfold CDivN; omega) | skip)
  | with_reducible exact ov_eqI | with_reducible exact ov_neI | with_reducible exact ov_eqB | with_reducible exact ov_eqS | with_reducible exact ov_notB
  | with_reducible exact ov_isN | with_reducible exact ov_notN
  | with_reducible apply dv_neg
  | with_reducible apply dv_isInt | with_reducible apply dv_isBool
  | with_reducible apply dv_cb
  | (with_reducible exact cv_tupleK) | (with_reducible exact cv_tupF) | (with_reducible exact cv_intK) | (with_reducible exact cv_sum) | (with_reducible exact cv_all) | (with_reducible exact cv_any) | ((with_reducible apply cv_lenK); rfl)
  | (exact ov_ixT rfl rfl) | (exact ov_ixL rfl)
  | with_reducible apply dv_din | with_reducible apply dv_dnotin
  | (show D.items _ = some _; rfl) | (show D.seq _ = some _; rfl) | ((show WF _); assumption))
local macro_rules | `(tactic| walk_at "s") => `(tactic| first | with_reducible apply cl_power_in | with_reducible apply cl_size_in | with_reducible apply cl_weight_of | with_reducible apply cl_rows_in | with_reducible apply cl_web_in | with_reducible apply cl_movers_in | with_reducible apply cl_moved_in | with_reducible apply cl_still_in | with_reducible apply cl_moved_by | with_reducible apply cl_movers_on | with_reducible apply cl_struck_by | with_reducible apply cl_subsets_of | with_reducible apply cl_cut_in | with_reducible apply cl_log_in | with_reducible apply cl_row_power )
theorem ps_of {T : Tab} (h : WF T) {p : Int} (hp : p ∈ T.1) : 2 ≤ p ∧ p ≤ 31 := ps_lo (h.pin p hp)
theorem mover_in {T : Tab} (h : WF T) {m : Int} (hm : m ∈ movers T) : m ∈ T.1 := by
  obtain ⟨x, hx, rfl⟩ := List.mem_map.mp hm
  exact (h.mv x hx).mi
theorem on_web {T : Tab} {q m : Int} : m ∈ moversOn T q ↔ (m, q) ∈ web T := by
  unfold moversOn
  rw [List.mem_map]
  refine ⟨fun ⟨e, he, h⟩ => ?_, fun h => ⟨(m, q), List.mem_filter.mpr ⟨h, decide_eq_true rfl⟩, rfl⟩⟩
  obtain ⟨h1, h2⟩ := List.mem_filter.mp he
  have h2 : e.2 = q := of_decide_eq_true h2
  rw [← h, ← h2]
  exact h1
theorem web_mover {T : Tab} {e : Pr} (h : e ∈ web T) : e.1 ∈ movers T := by
  obtain ⟨m, hm, q, hq, rfl⟩ := mem_web.mp h
  exact List.mem_map.mpr ⟨m, hm, rfl⟩
theorem web_row {T : Tab} (hw : WF T) {m q : Int} (h : (m, q) ∈ web T) : ∃ e ∈ rowOf T m, e.1 = q := by
  obtain ⟨x, hx, e, he, h2⟩ := mem_web.mp h
  injection h2 with a b
  subst a
  subst b
  rw [rowOf_eq hw hx]
  exact ⟨e, he, rfl⟩
def rootOf (T : Tab) (m q : Int) : Int := (((rowOf T m).find? fun e => decide (e.1 = q)).map (·.2)).getD 0
def rowD (r : Row) : List (Int × D) := r.map fun e => (e.1, .int e.2)
theorem row_at {T : Tab} (hw : WF T) {m q : Int} (h : (m, q) ∈ web T) : getD' (rowD (rowOf T m)) q = some (.int (rootOf T m q)) := by
  obtain ⟨e, he, hq⟩ := web_row hw h
  obtain ⟨y, hy⟩ := Option.isSome_iff_exists.mp (List.find?_isSome (p := fun e : Pr => decide (e.1 = q)).mpr ⟨e, he, decide_eq_true hq⟩)
  unfold getD' rowD rootOf
  rw [List.find?_map, Option.map_map]
  show Option.map _ ((rowOf T m).find? fun e : Pr => decide (e.1 = q)) = _
  rw [hy] <;> rfl
theorem row_wf {T : Tab} (hw : WF T) {m : Int} (h : m ∈ movers T) : WFm T.1 (m, rowOf T m) := hw.mv _ (rowOf_mem h)
theorem prodI_nn : ∀ ns : List Int, (∀ n ∈ ns, 0 ≤ n) → 0 ≤ prodI ns := fun ns => by
  have go : ∀ (ns : List Int) (a : Int), 0 ≤ a → (∀ n ∈ ns, 0 ≤ n) → 0 ≤ ns.foldl (· * ·) a := fun ns => by
    induction ns with
    | nil => exact fun a h _ => h
    | cons n ns ih => exact fun a h hn => ih (a * n) (Int.mul_nonneg h (hn n List.mem_cons_self)) fun x hx => hn x (List.mem_cons_of_mem _ hx)
  exact go ns 1 (by decide)
def logsM (T : Tab) (q r : Int) : Option (List (Int × Option Int)) :=
  if upM r (prodI (moversOn T q)).toNat q ≠ 1 then none
  else some ((moversOn T q).map fun m => (m, logIn (upM (rootOf T m q) (prodI (moversOn T q) / m).toNat q) (upM r (prodI (moversOn T q) / m).toNat q) q m.toNat))
theorem moversOn_nd {T : Tab} (h : WF T) (q : Int) : (moversOn T q).Pairwise (· < ·) := by
  have rowp : ∀ (m : Int × Row), (m.2.map (·.1)).Pairwise (· < ·) → ((m.2.filter fun e => decide (e.1 = q)).map fun _ => m.1).Pairwise (· < ·) := fun m hm => by
    have : (m.2.filter fun e => decide (e.1 = q)).length ≤ 1 := by
      have go : ∀ r : Row, (r.map (·.1)).Pairwise (· < ·) → (r.filter fun e => decide (e.1 = q)).length ≤ 1 := fun r => by
        induction r with
        | nil => exact fun _ => Nat.zero_le _
        | cons e r ih =>
          intro hs
          rw [List.map_cons, List.pairwise_cons] at hs
          rw [List.filter_cons]
          by_cases he : e.1 = q
          · rw [if_pos (decide_eq_true he), List.length_cons]
            have : r.filter (fun e => decide (e.1 = q)) = [] := List.filter_eq_nil_iff.mpr fun y hy hc => by
              have := hs.1 y.1 (List.mem_map.mpr ⟨y, hy, rfl⟩)
              have := of_decide_eq_true hc
              omega
            rw [this] <;> exact Nat.le_refl _
          · rw [if_neg (by rw [decide_eq_false he]; exact Bool.false_ne_true)]
            exact ih hs.2
      exact go m.2 hm
    match hl : m.2.filter fun e => decide (e.1 = q) with
    | [] =>
      rw [hl]
      exact List.Pairwise.nil
    | [e] =>
      rw [hl]
      exact List.pairwise_singleton _ _
    | e :: e2 :: r =>
      rw [hl] at this
      exact absurd this (by rw [List.length_cons, List.length_cons]; omega)
  have go : ∀ ms : List (Int × Row), (ms.map (·.1)).Pairwise (· < ·) → (∀ m ∈ ms, (m.2.map (·.1)).Pairwise (· < ·)) → (((ms.flatMap fun m => m.2.map fun e => (m.1, e.1)).filter fun e : Pr => decide (e.2 = q)).map (·.1)).Pairwise (· < ·) := fun ms => by
    induction ms with
    | nil => exact fun _ _ => List.Pairwise.nil
    | cons m ms ih =>
      intro hs hm
      rw [List.map_cons, List.pairwise_cons] at hs
      rw [List.flatMap_cons, List.filter_append, List.map_append, List.pairwise_append]
      refine ⟨?_, ih hs.2 fun x hx => hm x (List.mem_cons_of_mem _ hx), fun a ha b hb => ?_⟩
      · rw [List.filter_map, List.map_map]
        exact rowp m (hm m List.mem_cons_self)
      · obtain ⟨e, he, rfl⟩ := List.mem_map.mp ha
        obtain ⟨e1, he1, rfl⟩ := List.mem_map.mp (List.mem_filter.mp he).1
        obtain ⟨e', he', rfl⟩ := List.mem_map.mp hb
        obtain ⟨y, hy, hy2⟩ := List.mem_flatMap.mp (List.mem_filter.mp he').1
        obtain ⟨z, hz, rfl⟩ := List.mem_map.mp hy2
        exact hs.1 y.1 (List.mem_map.mpr ⟨y, hy, rfl⟩)
  exact go T.2 h.ms fun m hm => (h.mv m hm).so
section
variable {P : Program} {w : World} {K : PySem.W.Frag} {mg : Str → Option Value} {base : Heap} {f : Addr} {fd : FuncData} {tv : Value} {sl : List Sl} {tr : TA} {E : XK}

abbrev s_logs_at : Stmt := topS 19
abbrev N_logs_at : List Str := ["table", "prime", "quotient", "movers", "found", "many", "mover", "late", "base"]
theorem sc_logs_at : FnScope N_logs_at ["table", "prime", "quotient"] (defScope s_logs_at) := ⟨rfl, rfl, rfl, by decide +kernel, rfl, by decide +kernel, by decide +kernel⟩
def encLogs (ls : List (Int × Option Int)) : List (Int × D) := ls.map fun e => (e.1, dOpt e.2)
def sp_logs_at : Sp := spM (fun x : Tab × Int × Int => [dTab x.1, .int x.2.1, .int x.2.2]) (fun x => WF x.1 ∧ 2 ≤ x.2.1 ∧ x.2.1 < 10000) (fun x => (logsM x.1 x.2.1 x.2.2).map encLogs)
theorem ok_logs_at (D_movers_on : Def P w K mg base "movers_on" ["table", "prime"] [] 2 sp_movers_on) (D_size_in : Def P w K mg base "size_in" ["primes"] [] 1 sp_size_in) (D_power_in : Def P w K mg base "power_in" ["base", "k", "prime"] [] 1 sp_power_in) (D_rows_in : Def P w K mg base "rows_in" ["table"] [] 1 sp_rows_in) (D_log_in : Def P w K mg base "log_in" ["base", "goal", "prime", "most"] [] 1 sp_log_in) (B : Blt mg tv) (F : Fun K "logs_at" "logs_at" s_logs_at f fd) : FnOk P w K mg base CX0 3 f fd ["table", "prime", "quotient"] sp_logs_at := by
  have nd := sc_logs_at.nd
  refine F.ok (k := 2) sc_logs_at (fun vs H Q E h => spM_len (n:=3) (fun _ => rfl) h) (fun cdv A outer s H vs Q E hr h => ?_)
  refine ⟨_, (pss_cons (ps_par (i := 3) (j := 4) rfl nd rfl rfl (by decide) rfl rfl (pa_cons (pe_def D_movers_on (hr.mono (by decide)) (by rfl) (pa_cons (pv 0) (pa_cons (pv 1) pa_nil))) (pa_cons pe_dnewK pa_nil)) (by rfl))
      (pss_cons (ps_set (i := 5) nd rfl (Or.inl rfl) (pe_def D_size_in (hr.mono (by decide)) (by rfl) (pa_cons (pv 3) pa_nil)))
      (pss_cons (ps_if (pt_cmpR op_ne (pe_def D_power_in (hr.mono (by decide)) (by rfl) (pa_cons (pv 2) (pa_cons (pv 5) (pa_cons (pv 1) pa_nil)))) pe_int (nomark _)) (pss_one (ps_ret pe_non)) pss_nil)
      (pss_cons (ps_for PassesOwn.never rfl (pi_tupK K (pv 3)) (pg_name (i := 6) nd rfl (Or.inl rfl)) (pss_cons (ps_set (i := 7) nd rfl (Or.inl rfl) (pe_op op_fdiv (pv 5) (pv 6)))
      (pss_cons (ps_set (i := 8) nd rfl (Or.inl rfl) (pe_def D_power_in (hr.mono (by decide)) (by rfl) (pa_cons (pe_dget (hu_of hr) (pe_callTy (call_dictTK K rfl) (by rfl) B.dict_ (by decide +kernel) (pa_cons (pe_dget (hu_of hr) (pe_def D_rows_in (hr.mono (by decide)) (by rfl) (pa_cons (pv 0) pa_nil)) (pv 6) (fun _ _ => rfl)) pa_nil)) (pv 1) (fun _ _ => rfl)) (pa_cons (pv 7) (pa_cons (pv 1) pa_nil)))))
      (pss_one (ps_dput (hu_of hr) (pv 4) (pv 6) (pe_def D_log_in (hr.mono (by decide)) (by rfl) (pa_cons (pv 8) (pa_cons (pe_def D_power_in (hr.mono (by decide)) (by rfl) (pa_cons (pv 2) (pa_cons (pv 7) (pa_cons (pv 1) pa_nil)))) (pa_cons (pv 1) (pa_cons (pv 6) pa_nil))))) rfl)))))
      (pss_one (ps_ret (pv 4))))))), body_okM (N := N_logs_at) h fun x hp => ?_⟩
  obtain ⟨T, q, r⟩ := x
  obtain ⟨hw, h1, h2⟩ := hp
  dsimp only at hw h1 h2
  show DS _ [.d (dTab T), .d (.int q), .d (.int r), .un, .un, .un, .un, .un, .un] _
  have on : ∀ m ∈ moversOn T q, 2 ≤ m ∧ m ≤ 31 := fun m hm => ps_of hw (mover_in hw (web_mover (on_web.mp hm)))
  have pn : 0 ≤ prodI (moversOn T q) := prodI_nn _ fun n hn => by have := on n hn; omega
  apply ds_seq
  apply ds_parM
  · repeat' walk_at "s"
  · exact dm_new
  apply ds_seq
  apply ds_set (d := .int (prodI (moversOn T q)))
  · repeat' walk_at "s"
    exact fun n hn => by have := on n hn; omega
  apply ds_seq
  apply ds_if
  · repeat' walk_at "s"
    exact ⟨pn, h1, h2⟩
  · intro hb
    apply ds_ret
    · repeat' walk_at "s"
    · refine ⟨rfl, ?_⟩
      show Option.map _ (logsM T q r) = none
      unfold logsM
      rw [if_pos (by simpa using hb)] <;> rfl
  · intro hb
    apply ds_nx
    apply ds_seq
    have lg : logsM T q r = some ((moversOn T q).map fun m => (m, logIn (upM (rootOf T m q) (prodI (moversOn T q) / m).toNat q) (upM r (prodI (moversOn T q) / m).toNat q) q m.toNat)) := by
      unfold logsM
      rw [if_neg (by simpa using hb)]
    refine ds_for (moversOn T q) D.int (fun m => [(6, .int m)]) (fun i s => ∃ a b c, s = [.d (dTab T), .d (.int q), .d (.int r), .d (dTI (moversOn T q)), .md (encLogs (((moversOn T q).take i).map fun m => (m, logIn (upM (rootOf T m q) (prodI (moversOn T q) / m).toNat q) (upM r (prodI (moversOn T q) / m).toNat q) q m.toNat))), .d (.int (prodI (moversOn T q))), a, b, c]) (di_tup (d := dTI (moversOn T q)) ?_ rfl) (fun _ _ => dg_name) ⟨_, _, _, rfl⟩ ?_ ?_
    · repeat' walk_at "s"
    · rintro i m s hi ⟨a, b, c, rfl⟩
      have hm := mem_at hi
      have hwb := on_web.mp hm
      have hmv := web_mover hwb
      have o2 := on m hm
      have ln := moversOn_len hw q
      have dn : 0 ≤ prodI (moversOn T q) / m := Int.ediv_nonneg pn (by omega)
      have rs := (row_wf hw hmv).so
      have hput : putD (encLogs (((moversOn T q).take i).map fun m => (m, logIn (upM (rootOf T m q) (prodI (moversOn T q) / m).toNat q) (upM r (prodI (moversOn T q) / m).toNat q) q m.toNat))) m (dOpt (logIn (upM (rootOf T m q) (prodI (moversOn T q) / m).toNat q) (upM r (prodI (moversOn T q) / m).toNat q) q m.toNat)) = encLogs (((moversOn T q).take (i + 1)).map fun m => (m, logIn (upM (rootOf T m q) (prodI (moversOn T q) / m).toNat q) (upM r (prodI (moversOn T q) / m).toNat q) q m.toNat)) := by
        rw [putD_new (by
          intro hc
          unfold encLogs at hc
          rw [List.map_map, List.map_map] at hc
          obtain ⟨y, hy, e⟩ := List.mem_map.mp hc
          have e : y = m := e
          rw [e] at hy
          have pw := moversOn_nd hw q
          obtain ⟨j, hj, ej⟩ := List.mem_take_iff_getElem.mp hy
          obtain ⟨hi1, hi2⟩ := List.getElem?_eq_some_iff.mp hi
          have := List.pairwise_iff_getElem.mp pw j i (by omega) hi1 (by omega)
          omega)]
        rw [take_snoc hi, List.map_append, encLogs, encLogs, List.map_append]
        rfl
      apply ds_seq
      apply ds_set (d := .int (prodI (moversOn T q) / m))
      · repeat' walk_at "s"
      apply ds_seq
      apply ds_set (d := .int (upM (rootOf T m q) (prodI (moversOn T q) / m).toNat q))
      · apply cl_power_in
        · apply da_cons
          · refine dv_dget (ds := rowD (rowOf T m)) (k := q) ?_ ?_ (row_at hw hwb)
            · refine DV.cast (dv_cb (da_cons (dv_dget (ds := rowsD T) (k := m) (d := dRow (rowOf T m)) ?_ ?_ (rows_at hmv)) da_nil) (cm_dictTK (xs := rowOf T m) dPr (·.1) (fun e => .int e.2) (fun _ => rfl)).v) ?_
              · repeat' walk_at "s"
              · repeat' walk_at "s"
              · exact congrArg D.dic (mergeD_self (by rw [List.map_map]; exact rs))
            · repeat' walk_at "s"
          · repeat' walk_at "s"
        · exact ⟨dn, h1, h2⟩
      apply ds_dput (ks := encLogs (((moversOn T q).take i).map fun m => (m, logIn (upM (rootOf T m q) (prodI (moversOn T q) / m).toNat q) (upM r (prodI (moversOn T q) / m).toNat q) q m.toNat))) rfl
      · repeat' walk_at "s"
        · exact ⟨dn, h1, h2⟩
        · exact ⟨h1, h2, by omega, by omega⟩
      · repeat' walk_at "s"
      · unfold encLogs
        rw [List.length_map, List.length_map, List.length_take]
        omega
      · exact ⟨_, _, _, by rw [hput] <;> rfl⟩
    · rintro s ⟨a, b, c, rfl⟩
      rw [List.take_length]
      apply ds_retM rfl
      show Option.map _ (logsM T q r) = _
      rw [lg] <;> rfl

abbrev s_power_in_rows : Stmt := topS 22
abbrev N_power_in_rows : List Str := ["table", "other", "mover", "row", "far", "k"]
theorem sc_power_in_rows : FnScope N_power_in_rows ["table", "other", "mover"] (defScope s_power_in_rows) := ⟨rfl, rfl, rfl, by decide +kernel, rfl, by decide +kernel, by decide +kernel⟩
def pirM (T R : Tab) (m : Int) : Option Int :=
  if movedBy R m ≠ movedBy T m then none
  else match logIn ((rowOf R m).headD (0, 0)).2 ((rowOf T m).headD (0, 0)).2 ((rowOf T m).headD (0, 0)).1 m.toNat with
    | none => none
    | some k => if rowPow (rowOf R m) k = rowOf T m then some k else none
def sp_power_in_rows : Sp := spF (fun x : Tab × Tab × Int => [dTab x.1, dTab x.2.1, .int x.2.2]) (fun x => WF x.1 ∧ WF x.2.1 ∧ x.2.2 ∈ movers x.1) (fun x => dOpt (pirM x.1 x.2.1 x.2.2))
theorem logIn_nn {b g p k : Int} {n : Nat} (h : logIn b g p n = some k) : 0 ≤ k ∧ k < n := by
  unfold logIn at h
  obtain ⟨j, hj, rfl⟩ := Option.map_eq_some_iff.mp h
  have := List.mem_range.mp (List.mem_of_find?_eq_some hj)
  exact ⟨Int.natCast_nonneg j, Int.ofNat_lt.mpr this⟩
theorem ok_power_in_rows (D_rows_in : Def P w K mg base "rows_in" ["table"] [] 1 sp_rows_in) (D_moved_by : Def P w K mg base "moved_by" ["table", "mover"] [] 2 sp_moved_by) (D_log_in : Def P w K mg base "log_in" ["base", "goal", "prime", "most"] [] 1 sp_log_in) (D_row_power : Def P w K mg base "row_power" ["row", "k"] [] 2 sp_row_power) (F : Fun K "power_in_rows" "power_in_rows" s_power_in_rows f fd) : FnOk P w K mg base CX0 3 f fd ["table", "other", "mover"] sp_power_in_rows := by
  have nd := sc_power_in_rows.nd
  refine F.ok (k := 2) sc_power_in_rows (fun vs H Q E h => spF_len (n:=3) (fun _ => rfl) h) (fun cdv A outer s H vs Q E hr h => ?_)
  refine ⟨_, (pss_cons (ps_set (i := 3) nd rfl (Or.inl rfl) (pe_dget (hu_of hr) (pe_def D_rows_in (hr.mono (by decide)) (by rfl) (pa_cons (pv 0) pa_nil)) (pv 2) (fun _ _ => rfl)))
      (pss_cons (ps_if (pt_cmpR (op_neDK K hr.units) (pe_def D_moved_by (hr.mono (by decide)) (by rfl) (pa_cons (pv 1) (pa_cons (pv 2) pa_nil))) (pe_def D_moved_by (hr.mono (by decide)) (by rfl) (pa_cons (pv 0) (pa_cons (pv 2) pa_nil))) (nomark _)) (pss_one (ps_ret pe_non)) pss_nil)
      (pss_cons (ps_set (i := 4) nd rfl (Or.inl rfl) (pe_dget (hu_of hr) (pe_def D_rows_in (hr.mono (by decide)) (by rfl) (pa_cons (pv 1) pa_nil)) (pv 2) (fun _ _ => rfl)))
      (pss_cons (ps_set (i := 5) nd rfl (Or.inl rfl) (pe_def D_log_in (hr.mono (by decide)) (by rfl) (pa_cons (pe_ix (ix_tupK K) (pe_ix (ix_tupK K) (pv 4) pe_int (fun _ _ => rfl)) pe_int (fun _ _ => rfl)) (pa_cons (pe_ix (ix_tupK K) (pe_ix (ix_tupK K) (pv 3) pe_int (fun _ _ => rfl)) pe_int (fun _ _ => rfl)) (pa_cons (pe_ix (ix_tupK K) (pe_ix (ix_tupK K) (pv 3) pe_int (fun _ _ => rfl)) pe_int (fun _ _ => rfl)) (pa_cons (pv 2) pa_nil))))))
      (pss_one (ps_ret (pe_ifExp (PW.pt (pw_and (pt_cmpR op_notN (pv 5) pe_non (nomark _)) (pw_and1 (pt_cmpR (op_eqDK K hr.units) (pe_def D_row_power (hr.mono (by decide)) (by rfl) (pa_cons (pv 4) (pa_cons (pv 5) pa_nil))) (pv 3) (nomark _))))) (pv 5) pe_non))))))), body_ok (N := N_power_in_rows) h fun x hp => ?_⟩
  obtain ⟨T, R, m⟩ := x
  obtain ⟨hw, hr', hm⟩ := hp
  dsimp only at hw hr' hm
  show DS _ [.d (dTab T), .d (dTab R), .d (.int m), .un, .un, .un] _
  have hm2 := ps_of hw (mover_in hw hm)
  have wt := row_wf hw hm
  obtain ⟨t0, ts, ht⟩ := List.exists_cons_of_ne_nil wt.ne
  dsimp only at ht
  apply ds_seq
  apply ds_set (d := dRow (rowOf T m))
  · refine dv_dget (ds := rowsD T) (k := m) ?_ ?_ (rows_at hm)
    all_goals repeat' walk_at "s"
  apply ds_seq
  apply ds_if (b := !decide (movedBy R m = movedBy T m))
  · repeat' walk_at "s"
    exact ov_neT eqInt (by decide) rfl rfl
  · intro hb
    apply ds_ret
    · repeat' walk_at "s"
    · show D.non = dOpt (pirM T R m)
      unfold pirM
      rw [if_pos (by simpa using hb)] <;> rfl
  · intro hb
    have he : movedBy R m = movedBy T m := by simpa using hb
    apply ds_nx
    have hmr : (getD' (rowsD R) m).isSome = true := by
      cases e : (getD' (rowsD R) m).isSome with
      | true => rfl
      | false =>
        have := rowOf_none e
        unfold movedBy at he
        rw [this, ht] at he
        cases he
    have hrl := rowOf_len hr' m
    have hl : rowOf R m ≠ [] := fun h => by
      unfold movedBy at he
      rw [h, ht] at he
      cases he
    obtain ⟨r0, rs, hr0⟩ := List.exists_cons_of_ne_nil hl
    apply ds_seq
    apply ds_set (d := dRow (rowOf R m))
    · refine dv_dget (ds := rowsD R) (k := m) ?_ ?_ (rows_some hmr)
      all_goals repeat' walk_at "s"
    apply ds_seq
    have wed := wt.ed t0 (by show t0 ∈ rowOf T m; rw [ht]; exact List.mem_cons_self)
    have t2 := ps_of hw wed.1
    have red : ∀ e ∈ rowOf R m, 2 ≤ e.1 ∧ e.1 < 10000 := fun e he2 => by
      have : e.1 ∈ movedBy T m := by
        rw [← he]
        exact List.mem_map.mpr ⟨e, he2, rfl⟩
      obtain ⟨e', he', q⟩ := List.mem_map.mp this
      have := ps_of hw (wt.ed e' he').1
      rw [← q]
      omega
    have ef : ∀ (r : Row) (a : Pr) (as : Row), r = a :: as → atI (r.map dPr) 0 = some (dPr a) := fun r a as e => by rw [e]; exact atI_nat (i := 0) rfl
    apply ds_set (d := dOpt (logIn r0.2 t0.2 t0.1 m.toNat))
    · apply cl_log_in
      · apply da_cons
        · apply dv_op
          · apply dv_op
            · exact dv_var rfl
            · exact dv_int
            · exact ov_ixT rfl (ef _ _ _ hr0)
          · exact dv_int
          · exact ov_ixT rfl rfl
        apply da_cons
        · apply dv_op
          · apply dv_op
            · exact dv_var rfl
            · exact dv_int
            · exact ov_ixT rfl (ef _ _ _ ht)
          · exact dv_int
          · exact ov_ixT rfl rfl
        apply da_cons
        · apply dv_op
          · apply dv_op
            · exact dv_var rfl
            · exact dv_int
            · exact ov_ixT rfl (ef _ _ _ ht)
          · exact dv_int
          · exact ov_ixT rfl rfl
        · repeat' walk_at "s"
      · exact ⟨by omega, by omega, by omega, by omega⟩
    have pm : pirM T R m = match logIn r0.2 t0.2 t0.1 m.toNat with
        | none => none
        | some k => if rowPow (rowOf R m) k = rowOf T m then some k else none := by
      unfold pirM
      rw [if_neg (fun h => h he), hr0, ht] <;> rfl
    cases hlog : logIn r0.2 t0.2 t0.1 m.toNat with
    | none =>
      rw [hlog] at pm
      apply ds_ret (d := .non)
      · refine dv_if (b := false) (dt_and (a := false) (b := false) ?_ (fun h => by cases h)) (fun h => by cases h) (fun _ => dv_non)
        apply DT.cast
        · repeat' walk_at "s"
        · rfl
      · show D.non = dOpt (pirM T R m)
        rw [pm] <;> rfl
    | some k =>
      have hk := logIn_nn hlog
      rw [hlog] at pm
      apply ds_ret (d := dOpt (pirM T R m))
      · refine dv_if (b := true && decide (rowPow (rowOf R m) k = rowOf T m)) (dt_and ?_ (fun _ => ?_)) (fun h => ?_) (fun h => ?_)
        · apply DT.cast
          · repeat' walk_at "s"
          · rfl
        · repeat' walk_at "s"
          · exact ⟨hk.1, hrl, red⟩
          · exact ov_eqT eqPr (by decide) rfl rfl
        · rw [Bool.true_and] at h
          rw [pm]
          dsimp only
          rw [if_pos (of_decide_eq_true h)]
          exact dv_var rfl
        · rw [Bool.true_and] at h
          rw [pm]
          dsimp only
          rw [if_neg (of_decide_eq_false h)]
          exact dv_non
      · rfl
theorem cl_power_in_rows {T R : Tab} {m : Int} (h : DA tr sl [dTab T, dTab R, .int m]) (hp : WF T ∧ WF R ∧ m ∈ movers T) : DV (tCall sp_power_in_rows [] E tr) sl (dOpt (pirM T R m)) := dv_call0 (enc := fun x : Tab × Tab × Int => [dTab x.1, dTab x.2.1, .int x.2.2]) (T, R, m) h hp
local macro_rules | `(tactic| walk_at "s") => `(tactic| with_reducible apply cl_power_in_rows)

abbrev s_alike_in : Stmt := topS 23
abbrev N_alike_in : List Str := ["table", "other", "mover"]
theorem sc_alike_in : FnScope N_alike_in ["table", "other"] (defScope s_alike_in) := ⟨rfl, rfl, rfl, by decide +kernel, rfl, by decide +kernel, by decide +kernel⟩
def aliM (T R : Tab) : Bool := if T.1 ≠ R.1 ∨ web T ≠ web R then false else (movers T).all fun m => (pirM T R m).isSome
def sp_alike_in : Sp := spF (fun x : Tab × Tab => [dTab x.1, dTab x.2]) (fun x => WF x.1 ∧ WF x.2) (fun x => .bl (aliM x.1 x.2))
theorem ok_alike_in (D_web_in : Def P w K mg base "web_in" ["table"] [] 1 sp_web_in) (D_movers_in : Def P w K mg base "movers_in" ["table"] [] 1 sp_movers_in) (D_power_in_rows : Def P w K mg base "power_in_rows" ["table", "other", "mover"] [] 3 sp_power_in_rows) (B : Blt mg tv) (F : Fun K "alike_in" "alike_in" s_alike_in f fd) : FnOk P w K mg base CX0 4 f fd ["table", "other"] sp_alike_in := by
  have nd := sc_alike_in.nd
  refine F.ok (k := 3) sc_alike_in (fun vs H Q E h => spF_len (n:=2) (fun _ => rfl) h) (fun cdv A outer s H vs Q E hr h => ?_)
  refine ⟨_, (pss_cons (ps_if (PW.pt (pw_or (pt_cmpR (op_neDK K hr.units) (pe_ix (ix_tupK K) (pv 0) pe_int (fun _ _ => rfl)) (pe_ix (ix_tupK K) (pv 1) pe_int (fun _ _ => rfl)) (nomark _)) (pw_or1 (pt_cmpR (op_neDK K hr.units) (pe_def D_web_in (hr.mono (by decide)) (by rfl) (pa_cons (pv 0) pa_nil)) (pe_def D_web_in (hr.mono (by decide)) (by rfl) (pa_cons (pv 1) pa_nil)) (nomark _))))) (pss_one (ps_ret pe_bl)) pss_nil)
      (pss_one (ps_ret (pe_callB (cr_allK K rfl) (by rfl) B.all_ (by decide +kernel) (pa_cons (pe_lc (own := [("mover", 2)]) rfl nd (pi_tupK K (pe_def D_movers_in (hr.mono (by decide)) (by rfl) (pa_cons (pv 0) pa_nil))) (blkOk_by (N := N_alike_in) (sc := (defScope s_alike_in)) (by decide +kernel)) (fun _ _ _ _ _ => (pg_name (i := 2) nd rfl (Or.inl rfl))) (fun _ _ _ _ _ => pts_nil) (fun _ _ _ _ _ => (pe_cmpR op_notN (pe_def D_power_in_rows (hr.mono (by decide)) (by rfl) (pa_cons (pv 0) (pa_cons (pv 1) (pa_cons (pv 2) pa_nil)))) pe_non (nomark _)))) pa_nil))))), body_ok (N := N_alike_in) h fun x hp => ?_⟩
  obtain ⟨T, R⟩ := x
  obtain ⟨hw, hv⟩ := hp
  dsimp only at hw hv
  show DS _ [.d (dTab T), .d (dTab R), .un] _
  have h1 := hw.ml
  apply ds_seq
  apply ds_if (b := (!decide (T.1 = R.1)) || (!decide (web T = web R)))
  · apply dt_or
    · repeat' walk_at "s"
      exact ov_neT eqInt (by decide) rfl rfl
    · intro _
      repeat' walk_at "s"
      exact ov_neT eqPr (by decide) rfl rfl
  · intro hb
    apply ds_ret
    · repeat' walk_at "s"
    · show D.bl false = D.bl (aliM T R)
      unfold aliM
      rw [if_pos (by simpa using hb)]
  · intro hb
    apply ds_nx
    apply ds_ret
    · apply dv_cb
      · apply da_cons
        · refine dl_lcE0 (movers T) D.int (fun m => [(2, .int m)]) (fun m => (pirM T R m).isSome) D.bl (di_tup (d := dTI (movers T)) ?_ rfl) (fun _ _ => dg_name) (fun _ _ => rfl) (fun m hm => ?_) (by unfold movers; rw [List.length_map]; omega)
          · repeat' walk_at "s"
          · apply DV.cast
            · repeat' walk_at "s"
              · exact ⟨hw, hv, hm⟩
            · cases pirM T R m <;> rfl
        · exact da_nil
      · exact cv_all
    · show D.bl _ = D.bl (aliM T R)
      unfold aliM
      rw [if_neg (by simpa using hb), List.all_map] <;> rfl
theorem cl_alike_in {T R : Tab} (h : DA tr sl [dTab T, dTab R]) (hp : WF T ∧ WF R) : DV (tCall sp_alike_in [] E tr) sl (.bl (aliM T R)) := dv_call0 (enc := fun x : Tab × Tab => [dTab x.1, dTab x.2]) (T, R) h hp
local macro_rules | `(tactic| walk_at "s") => `(tactic| with_reducible apply cl_alike_in)
end
end Wa
set_option maxHeartbeats 4000000
namespace Wa
open PySem PySem.Spec PyProof.Rows L2
local macro_rules | `(tactic| walk_at "s") => `(tactic| first
  | with_reducible exact dv_int | with_reducible exact dv_bl | with_reducible exact dv_str | with_reducible exact dv_non
  | ((with_reducible apply dv_var); first | rfl | (show _ = _; assumption))
  | with_reducible apply dv_op
  | with_reducible apply da_cons | with_reducible exact da_nil
  | with_reducible apply dv_tup2 | with_reducible apply dv_tup1 | with_reducible apply dv_tup3 | with_reducible exact dv_tup0
  | with_reducible apply dv_isN | with_reducible apply dv_notN
  | with_reducible apply dt_test | with_reducible apply dt_B | with_reducible exact dt_yes
  | with_reducible apply (dt_and ?_ fun _ => ?_) | with_reducible apply (dt_or ?_ fun _ => ?_) | with_reducible apply dt_not
  | with_reducible apply (dv_and ?_ fun _ => ?_) | with_reducible apply dv_not
  | with_reducible apply (dv_chain (g := D.non) ?_ ?_ ?_ (fun _ => ?_) (fun _ => ?_))
  | with_reducible exact ov_I0 | with_reducible exact ov_B0 | ((with_reducible apply ov_I); first | (show 0 < _; omega) | (unfold CDiv; omega) | (unfold CMul; omega) | (unfold CDivN; omega) | skip)
  | with_reducible exact ov_eqI | with_reducible exact ov_neI | with_reducible exact ov_eqB | with_reducible exact ov_eqS | with_reducible exact ov_notB
  | with_reducible exact ov_isN | with_reducible exact ov_notN
  | with_reducible apply dv_neg
  | with_reducible apply dv_isInt | with_reducible apply dv_isBool
  | with_reducible apply dv_cb
  | (with_reducible exact cv_tupleK) | (with_reducible exact cv_tupF) | (with_reducible exact cv_intK) | (with_reducible exact cv_sum) | (with_reducible exact cv_all) | (with_reducible exact cv_any) | ((with_reducible apply cv_lenK); rfl)
  | (exact ov_ixT rfl rfl) | (exact ov_ixL rfl)
  | with_reducible apply dv_din | with_reducible apply dv_dnotin
  | (show D.items _ = some _; rfl) | (show D.seq _ = some _; rfl) | ((show WF _); assumption))
local macro_rules | `(tactic| walk_at "s") => `(tactic| first | with_reducible apply cl_power_in | with_reducible apply cl_size_in | with_reducible apply cl_weight_of | with_reducible apply cl_rows_in | with_reducible apply cl_web_in | with_reducible apply cl_movers_in | with_reducible apply cl_moved_in | with_reducible apply cl_still_in | with_reducible apply cl_moved_by | with_reducible apply cl_movers_on | with_reducible apply cl_struck_by | with_reducible apply cl_subsets_of | with_reducible apply cl_cut_in | with_reducible apply cl_log_in | with_reducible apply cl_row_power | with_reducible apply cl_power_in_rows | with_reducible apply cl_alike_in )
theorem ps_und {n k : Int} (hn : n ∈ PS) (h1 : 2 ≤ k) (h2 : k * k ≤ n) : k ≤ 5 ∧ n % k ≠ 0 := by
  have hn2 := ps_lo hn
  have h5 : k ≤ 5 := by
    by_cases h : k ≤ 5
    · exact h
    · have := Int.mul_le_mul (show (6 : Int) ≤ k by omega) (show (6 : Int) ≤ k by omega) (by decide) (by omega)
      omega
  refine ⟨h5, ?_⟩
  have hk : k = 2 ∨ k = 3 ∨ k = 4 ∨ k = 5 := by omega
  simp only [PS, List.mem_cons, List.not_mem_nil, or_false] at hn
  rcases hk with rfl | rfl | rfl | rfl <;> omega
section
variable {P : Program} {w : World} {K : PySem.W.Frag} {mg : Str → Option Value} {base : Heap} {f : Addr} {fd : FuncData} {tv : Value} {sl : List Sl} {tr : TA} {E : XK}

abbrev s_is_undivided : Stmt := topS 1
abbrev N_is_undivided : List Str := ["number", "k"]
theorem sc_is_undivided : FnScope N_is_undivided ["number"] (defScope s_is_undivided) := ⟨rfl, rfl, rfl, by decide +kernel, rfl, by decide +kernel, by decide +kernel⟩
def sp_is_undivided : Sp := spF (fun x : Int => [.int x]) (fun x => x ∈ PS) (fun _ => .bl true)
theorem ok_is_undivided  (F : Fun K "is_undivided" "is_undivided" s_is_undivided f fd) : FnOk P w K mg base CX0 1 f fd ["number"] sp_is_undivided := by
  have nd := sc_is_undivided.nd
  refine F.ok (k := 0) sc_is_undivided (fun vs H Q E h => spF_len (n:=1) (fun _ => rfl) h) (fun cdv A outer s H vs Q E hr h => ?_)
  refine ⟨_, (pss_cons (ps_set (i := 1) nd rfl (Or.inl rfl) pe_int)
      (pss_cons (ps_while PassesOwn.never (pt_cmpR op_le (pe_op op_mul (pv 1) (pv 1)) (pv 0) (nomark _)) (pss_cons (ps_if (pt_cmpR op_eq (pe_op op_mod (pv 0) (pv 1)) pe_int (nomark _)) (pss_one (ps_ret pe_bl)) pss_nil)
      (pss_one (ps_set (i := 1) nd rfl (Or.inl rfl) (pe_op op_add (pv 1) pe_int)))))
      (pss_one (ps_ret pe_bl)))), body_ok (N := N_is_undivided) h fun x hp => ?_⟩
  have hx := ps_lo hp
  show DS _ [.d (.int x), .un] _
  apply ds_seq
  apply ds_set
  · repeat' walk_at "s"
  apply ds_seq
  refine ds_while (fun m s => ∃ k, s = [.d (.int x), .d (.int k)] ∧ 2 ≤ k ∧ k ≤ 6 ∧ m = (7 - k).toNat) 5 ⟨2, rfl, by omega, by omega, by decide⟩ ?_
  rintro m s ⟨k, rfl, i1, i2, rfl⟩
  refine ⟨decide (k * k ≤ x), ?_, fun hb => ?_, fun hb => ?_⟩
  · repeat' walk_at "s"
  · obtain ⟨h5, h6⟩ := ps_und hp i1 (of_decide_eq_true hb)
    apply ds_seq
    apply ds_if
    · repeat' walk_at "s"
    · intro hc
      exact absurd (of_decide_eq_true hc) h6
    · intro _
      apply ds_nx
      apply ds_set
      · repeat' walk_at "s"
      · exact ⟨(7 - (k + 1)).toNat, by omega, k + 1, rfl, by omega, by omega, rfl⟩
  · apply ds_ret
    · repeat' walk_at "s"
    · rfl
theorem cl_is_undivided {n : Int} (h : DA tr sl [.int n]) (hp : n ∈ PS) : DV (tCall sp_is_undivided [] E tr) sl (.bl true) := dv_call0 (enc := fun x : Int => [.int x]) n h hp
local macro_rules | `(tactic| walk_at "s") => `(tactic| with_reducible apply cl_is_undivided)

abbrev s_is_whole_number : Stmt := topS 30
abbrev N_is_whole_number : List Str := ["value"]
theorem sc_is_whole_number : FnScope N_is_whole_number ["value"] (defScope s_is_whole_number) := ⟨rfl, rfl, rfl, by decide +kernel, rfl, by decide +kernel, by decide +kernel⟩
def sp_is_whole_number : Sp := spF (fun x : Int => [.int x]) (fun _ => True) (fun _ => .bl true)
theorem ok_is_whole_number  (B : Blt mg tv) (F : Fun K "is_whole_number" "is_whole_number" s_is_whole_number f fd) : FnOk P w K mg base CX0 1 f fd ["value"] sp_is_whole_number := by
  have nd := sc_is_whole_number.nd
  refine F.ok (k := 0) sc_is_whole_number (fun vs H Q E h => spF_len (n:=1) (fun _ => rfl) h) (fun cdv A outer s H vs Q E hr h => ?_)
  refine ⟨_, (pss_one (ps_ret (pe_and (pe_callB (call_isiK K) (by rfl) B.isinstance_ (by decide +kernel) (pa_cons (pv 0) (pa_cons (pe_bltn (v := .ty "int") (by rfl) B.int_ (by decide +kernel) rfl) pa_nil))) (pe_one (pe_not (pe_callB (call_isiK K) (by rfl) B.isinstance_ (by decide +kernel) (pa_cons (pv 0) (pa_cons (pe_bltn (v := .ty "bool") (by rfl) B.bool_ (by decide +kernel) rfl) pa_nil)))))))), body_ok (N := N_is_whole_number) h fun x hp => ?_⟩
  show DS _ [.d (.int x)] _
  apply ds_ret
  · repeat' walk_at "s"
  · rfl
theorem cl_is_whole_number {n : Int} (h : DA tr sl [.int n]) : DV (tCall sp_is_whole_number [] E tr) sl (.bl true) := dv_call0 (enc := fun x : Int => [.int x]) n h trivial
local macro_rules | `(tactic| walk_at "s") => `(tactic| with_reducible apply cl_is_whole_number)

abbrev s_is_count : Stmt := topS 31
abbrev N_is_count : List Str := ["value"]
theorem sc_is_count : FnScope N_is_count ["value"] (defScope s_is_count) := ⟨rfl, rfl, rfl, by decide +kernel, rfl, by decide +kernel, by decide +kernel⟩
def sp_is_count : Sp := spF (fun x : Int => [.int x]) (fun _ => True) (fun x => .bl (decide (0 ≤ x)))
theorem ok_is_count (D_is_whole_number : Def P w K mg base "is_whole_number" ["value"] [] 1 sp_is_whole_number) (F : Fun K "is_count" "is_count" s_is_count f fd) : FnOk P w K mg base CX0 2 f fd ["value"] sp_is_count := by
  have nd := sc_is_count.nd
  refine F.ok (k := 1) sc_is_count (fun vs H Q E h => spF_len (n:=1) (fun _ => rfl) h) (fun cdv A outer s H vs Q E hr h => ?_)
  refine ⟨_, (pss_one (ps_ret (pe_and (pe_def D_is_whole_number (hr.mono (by decide)) (by rfl) (pa_cons (pv 0) pa_nil)) (pe_one (pe_cmpR op_ge (pv 0) pe_int (nomark _)))))), body_ok (N := N_is_count) h fun x hp => ?_⟩
  show DS _ [.d (.int x)] _
  apply ds_ret
  · repeat' walk_at "s"
  · rfl
theorem cl_is_count {n : Int} (h : DA tr sl [.int n]) : DV (tCall sp_is_count [] E tr) sl (.bl (decide (0 ≤ n))) := dv_call0 (enc := fun x : Int => [.int x]) n h trivial
local macro_rules | `(tactic| walk_at "s") => `(tactic| with_reducible apply cl_is_count)

abbrev s_is_small_prime : Stmt := topS 32
abbrev N_is_small_prime : List Str := ["value"]
theorem sc_is_small_prime : FnScope N_is_small_prime ["value"] (defScope s_is_small_prime) := ⟨rfl, rfl, rfl, by decide +kernel, rfl, by decide +kernel, by decide +kernel⟩
def sp_is_small_prime : Sp := spF (fun x : Int => [.int x]) (fun x => x ∈ PS) (fun _ => .bl true)
theorem ok_is_small_prime (D_is_whole_number : Def P w K mg base "is_whole_number" ["value"] [] 1 sp_is_whole_number) (D_is_undivided : Def P w K mg base "is_undivided" ["number"] [] 1 sp_is_undivided) (B : Blt mg tv) (F : Fun K "is_small_prime" "is_small_prime" s_is_small_prime f fd) : FnOk P w K mg base CX0 2 f fd ["value"] sp_is_small_prime := by
  have nd := sc_is_small_prime.nd
  refine F.ok (k := 1) sc_is_small_prime (fun vs H Q E h => spF_len (n:=1) (fun _ => rfl) h) (fun cdv A outer s H vs Q E hr h => ?_)
  refine ⟨_, (pss_one (ps_ret (pe_and (pe_def D_is_whole_number (hr.mono (by decide)) (by rfl) (pa_cons (pv 0) pa_nil)) (pe_and (pe_chain op_le op_lt pe_int (pv 0) (pe_glob rfl B.TOP_ B.TOPr_)) (pe_one (pe_def D_is_undivided (hr.mono (by decide)) (by rfl) (pa_cons (pv 0) pa_nil))))))), body_ok (N := N_is_small_prime) h fun x hp => ?_⟩
  have hx := ps_lo hp
  show DS _ [.d (.int x)] _
  apply ds_ret
  · repeat' walk_at "s"
    exact hp
  · show D.bl _ = D.bl true
    rw [decide_eq_true (show (2 : Int) ≤ x by omega), decide_eq_true (show x < 10000 by omega)] <;> rfl
theorem cl_is_small_prime {n : Int} (h : DA tr sl [.int n]) (hp : n ∈ PS) : DV (tCall sp_is_small_prime [] E tr) sl (.bl true) := dv_call0 (enc := fun x : Int => [.int x]) n h hp
local macro_rules | `(tactic| walk_at "s") => `(tactic| with_reducible apply cl_is_small_prime)

abbrev s_is_pair : Stmt := topS 33
abbrev N_is_pair : List Str := ["value"]
theorem sc_is_pair : FnScope N_is_pair ["value"] (defScope s_is_pair) := ⟨rfl, rfl, rfl, by decide +kernel, rfl, by decide +kernel, by decide +kernel⟩
def sp_is_pair : Sp := spF (fun x : D × D × D => [x.1]) (fun x => x.1.items = some [x.2.1, x.2.2]) (fun _ => .bl true)
theorem ok_is_pair  (B : Blt mg tv) (F : Fun K "is_pair" "is_pair" s_is_pair f fd) : FnOk P w K mg base CX0 1 f fd ["value"] sp_is_pair := by
  have nd := sc_is_pair.nd
  refine F.ok (k := 0) sc_is_pair (fun vs H Q E h => spF_len (n:=1) (fun _ => rfl) h) (fun cdv A outer s H vs Q E hr h => ?_)
  refine ⟨_, (pss_one (ps_ret (pe_and (pe_callB (call_isiK K) (by rfl) B.isinstance_ (by decide +kernel) (pa_cons (pv 0) (pa_cons (pe_bltn (v := .ty "tuple") (by rfl) B.tuple_ (by decide +kernel) rfl) pa_nil))) (pe_one (pe_cmpR op_eq (pe_callB (call_lenK K) (by rfl) B.len_ (by decide +kernel) (pa_cons (pv 0) pa_nil)) pe_int (nomark _)))))), body_ok (N := N_is_pair) h fun x hp => ?_⟩
  obtain ⟨d, a, b⟩ := x
  have hd : d.items = some [a, b] := hp
  show DS _ [.d d] _
  apply ds_ret
  · apply dv_and
    · exact dv_isTup (dv_var rfl) hd
    · intro _
      apply dv_op
      · apply dv_cb
        · repeat' walk_at "s"
        · exact cv_lenK (items_seq hd)
      · repeat' walk_at "s"
      · exact ov_eqI
  · rfl
theorem cl_is_pair {d a b : D} (h : DA tr sl [d]) (hp : d.items = some [a, b]) : DV (tCall sp_is_pair [] E tr) sl (.bl true) := dv_call0 (enc := fun x : D × D × D => [x.1]) (d, a, b) h hp
local macro_rules | `(tactic| walk_at "s") => `(tactic| with_reducible apply cl_is_pair)

abbrev s_are_rising : Stmt := topS 34
abbrev N_are_rising : List Str := ["numbers", "k"]
theorem sc_are_rising : FnScope N_are_rising ["numbers"] (defScope s_are_rising) := ⟨rfl, rfl, rfl, by decide +kernel, rfl, by decide +kernel, by decide +kernel⟩
def sp_are_rising : Sp := spF (fun x : D × List Int => [x.1]) (fun x => x.1.items = some (x.2.map D.int) ∧ x.2.length ≤ 5 ∧ x.2.Pairwise (· < ·)) (fun _ => .bl true)
theorem ok_are_rising  (B : Blt mg tv) (F : Fun K "are_rising" "are_rising" s_are_rising f fd) : FnOk P w K mg base CX0 1 f fd ["numbers"] sp_are_rising := by
  have nd := sc_are_rising.nd
  refine F.ok (k := 0) sc_are_rising (fun vs H Q E h => spF_len (n:=1) (fun _ => rfl) h) (fun cdv A outer s H vs Q E hr h => ?_)
  refine ⟨_, (pss_cons (ps_for PassesOwn.never rfl (pi_range2 rfl B.range_ (pa_cons pe_int (pa_cons (pe_callB (call_lenK K) (by rfl) B.len_ (by decide +kernel) (pa_cons (pv 0) pa_nil)) pa_nil))) (pg_name (i := 1) nd rfl (Or.inl rfl)) (pss_one (ps_if (pt_cmpR op_le (pe_ix (ix_tupK K) (pv 0) (pv 1) (fun _ _ => rfl)) (pe_ix (ix_tupK K) (pv 0) (pe_op op_sub (pv 1) pe_int) (fun _ _ => rfl)) (nomark _)) (pss_one (ps_ret pe_bl)) pss_nil)))
      (pss_one (ps_ret pe_bl))), body_ok (N := N_are_rising) h fun x hp => ?_⟩
  obtain ⟨d, ns⟩ := x
  obtain ⟨h1, h2, h3⟩ := hp
  dsimp only at h1 h2 h3
  show DS _ [.d d, .un] _
  have hs := items_seq h1
  apply ds_seq
  refine ds_for (List.range ((ns.map D.int).length - 1 : Int).toNat) (fun i => .int (1 + (i : Int))) (fun i => [(1, .int (1 + (i : Int)))]) (fun i s => ∃ a, s = [.d d, a]) (di_rng2 ?_ ⟨by decide, by decide⟩ (by rw [List.length_map]; omega)) (fun _ _ => dg_name) ⟨_, rfl⟩ ?_ ?_
  · repeat' walk_at "s"
    exact cv_lenK hs
  · rintro i k s hi ⟨a, rfl⟩
    obtain ⟨hk, e⟩ := List.getElem?_eq_some_iff.mp hi
    rw [List.getElem_range] at e
    subst e
    rw [List.length_range, List.length_map] at hk
    have lt := List.pairwise_iff_getElem.mp h3 i (i + 1) (by omega) (by omega) (by omega)
    apply ds_if (b := decide (ns[i + 1] ≤ ns[i]))
    · repeat' walk_at "s"
      · exact ov_ixT h1 ((congrArg (atI _) (show (1 + (i : Int)) = ((i + 1 : Nat) : Int) by omega)).trans (atI_nat (by rw [List.getElem?_map, List.getElem?_eq_getElem (show i + 1 < ns.length by omega)] <;> rfl)))
      · exact ov_ixT h1 ((congrArg (atI _) (show (1 + (i : Int) - 1) = (i : Int) by omega)).trans (atI_nat (by rw [List.getElem?_map, List.getElem?_eq_getElem (show i < ns.length by omega)] <;> rfl)))
    · intro hb
      have := of_decide_eq_true hb
      omega
    · intro _
      apply ds_nx
      exact ⟨_, rfl⟩
  · rintro s ⟨a, rfl⟩
    apply ds_ret
    · repeat' walk_at "s"
    · rfl
theorem cl_are_rising {d : D} {ns : List Int} (h : DA tr sl [d]) (hp : d.items = some (ns.map D.int) ∧ ns.length ≤ 5 ∧ ns.Pairwise (· < ·)) : DV (tCall sp_are_rising [] E tr) sl (.bl true) := dv_call0 (enc := fun x : D × List Int => [x.1]) (d, ns) h hp
local macro_rules | `(tactic| walk_at "s") => `(tactic| with_reducible apply cl_are_rising)

abbrev s_are_primes_among : Stmt := topS 35
abbrev N_are_primes_among : List Str := ["primes", "value", "odd", "each"]
theorem sc_are_primes_among : FnScope N_are_primes_among ["primes", "value"] (defScope s_are_primes_among) := ⟨rfl, rfl, rfl, by decide +kernel, rfl, by decide +kernel, by decide +kernel⟩
structure Among (d e : D) (ns ms : List Int) : Prop where
  hd : d.items = some (ns.map D.int)
  he : e.items = some (ms.map D.int)
  ln : ms.length ≤ 5
  so : ms.Pairwise (· < ·)
  su : ∀ m ∈ ms, m ∈ ns
def sp_are_primes_among : Sp := spF (fun x : D × D × List Int × List Int => [x.1, x.2.1]) (fun x => Among x.1 x.2.1 x.2.2.1 x.2.2.2) (fun _ => .bl true)
theorem ok_are_primes_among (D_is_whole_number : Def P w K mg base "is_whole_number" ["value"] [] 1 sp_is_whole_number) (D_are_rising : Def P w K mg base "are_rising" ["numbers"] [] 1 sp_are_rising) (B : Blt mg tv) (F : Fun K "are_primes_among" "are_primes_among" s_are_primes_among f fd) : FnOk P w K mg base CX0 2 f fd ["primes", "value"] sp_are_primes_among := by
  have nd := sc_are_primes_among.nd
  refine F.ok (k := 1) sc_are_primes_among (fun vs H Q E h => spF_len (n:=2) (fun _ => rfl) h) (fun cdv A outer s H vs Q E hr h => ?_)
  refine ⟨_, (pss_cons (ps_if (pt_not (pt_val (pe_callB (call_isiK K) (by rfl) B.isinstance_ (by decide +kernel) (pa_cons (pv 1) (pa_cons (pe_bltn (v := .ty "tuple") (by rfl) B.tuple_ (by decide +kernel) rfl) pa_nil))))) (pss_one (ps_ret pe_bl)) pss_nil)
      (pss_cons (ps_setLc (i := 2) (own := [("each", 3)]) rfl nd rfl rfl (sw_true rfl rfl rfl (by decide +kernel)) (pi_tupK K (pv 1)) (blkOk_by (N := N_are_primes_among) (sc := (defScope s_are_primes_among)) (by decide +kernel)) (fun _ _ _ _ _ => (pg_name (i := 3) nd rfl (Or.inl rfl))) (fun _ _ _ _ _ => pts_one (PW.pt (pw_or (pt_not (pt_val (pe_def D_is_whole_number (hr.mono (by decide)) (by rfl) (pa_cons (pv 3) pa_nil)))) (pw_or1 (pt_cmpR (op_notInK K) (pv 3) (pv 0) (rfl)))))) (fun _ _ _ _ _ => (pv 3)))
      (pss_one (ps_ret (pe_and (pe_cmpR (op_eqDK K hr.units) (pv 2) (pe_lst pa_nil) (nomark _)) (pe_one (pe_def D_are_rising (hr.mono (by decide)) (by rfl) (pa_cons (pv 1) pa_nil)))))))), body_ok (N := N_are_primes_among) h fun x hp => ?_⟩
  obtain ⟨d, e, ns, ms⟩ := x
  have hp : Among d e ns ms := hp
  have := hp.ln
  show DS _ [.d d, .d e, .un, .un] _
  apply ds_seq
  apply ds_if (b := !true)
  · apply dt_not
    apply dt_test
    exact dv_isTup (dv_var rfl) hp.he
  · intro hb
    cases hb
  · intro _
    apply ds_nx
    apply ds_seq
    have hc : ms.filter (fun m => !true || !decide (m ∈ ns)) = [] := List.filter_eq_nil_iff.mpr fun m hm hc => by
      have := hp.su m hm
      simp [this] at hc
    apply ds_set (d := .lst (([] : List Int).map D.int))
    · refine DV.cast (dl_lcE ms D.int (fun m => [(3, .int m)]) (fun m => !true || !decide (m ∈ ns)) id D.int (di_tup (d := e) ?_ hp.he) (fun _ _ => dg_name) (fun _ _ => rfl) (fun m _ => ?_) (fun p _ _ => ?_) (by omega)) (by rw [hc] <;> rfl)
      · repeat' walk_at "s"
      · repeat' walk_at "s"
        exact ov_notIn (items_seq hp.hd)
      · repeat' walk_at "s"
    apply ds_ret
    · apply dv_and (a := true) (b := true)
      · apply DV.cast
        · apply dv_op
          · repeat' walk_at "s"
          · exact (dl_lst da_nil).v
          · exact ov_eqD (a := ([] : List Int)) (b := ([] : List Int)) eqInt.lst (by decide) rfl (eqInt.lst.nd []) rfl (eqInt.lst.nd [])
        · rfl
      · intro _
        apply cl_are_rising (ns := ms)
        · repeat' walk_at "s"
        · exact ⟨hp.he, hp.ln, hp.so⟩
    · rfl
theorem cl_are_primes_among {d e : D} {ns ms : List Int} (h : DA tr sl [d, e]) (hp : Among d e ns ms) : DV (tCall sp_are_primes_among [] E tr) sl (.bl true) := dv_call0 (enc := fun x : D × D × List Int × List Int => [x.1, x.2.1]) (d, e, ns, ms) h hp
local macro_rules | `(tactic| walk_at "s") => `(tactic| with_reducible apply cl_are_primes_among)
end
end Wa
set_option maxHeartbeats 4000000
namespace Wa
open PySem PySem.Spec PyProof.Rows L2
local macro_rules | `(tactic| walk_at "s") => `(tactic| first
  | with_reducible exact dv_int | with_reducible exact dv_bl | with_reducible exact dv_str | with_reducible exact dv_non
  | ((with_reducible apply dv_var); first | rfl | (show _ = _; assumption))
  | with_reducible apply dv_op
  | with_reducible apply da_cons | with_reducible exact da_nil
  | with_reducible apply dv_tup2 | with_reducible apply dv_tup1 | with_reducible apply dv_tup3 | with_reducible exact dv_tup0
  | with_reducible apply dv_isN | with_reducible apply dv_notN
  | with_reducible apply dt_test | with_reducible apply dt_B | with_reducible exact dt_yes
  | with_reducible apply (dt_and ?_ fun _ => ?_) | with_reducible apply (dt_or ?_ fun _ => ?_) | with_reducible apply dt_not
  | with_reducible apply (dv_and ?_ fun _ => ?_) | with_reducible apply dv_not
  | with_reducible apply (dv_chain (g := D.non) ?_ ?_ ?_ (fun _ => ?_) (fun _ => ?_))
  | with_reducible exact ov_I0 | with_reducible exact ov_B0 | ((with_reducible apply ov_I); first | (show 0 < _; omega) | (unfold CDiv; omega) | (unfold CMul; omega) | (unfold CDivN; omega) | skip)
  | with_reducible exact ov_eqI | with_reducible exact ov_neI | with_reducible exact ov_eqB | with_reducible exact ov_eqS | with_reducible exact ov_notB
  | with_reducible exact ov_isN | with_reducible exact ov_notN
  | with_reducible apply dv_neg
  | with_reducible apply dv_isInt | with_reducible apply dv_isBool
  | with_reducible apply dv_cb
  | (with_reducible exact cv_tupleK) | (with_reducible exact cv_tupF) | (with_reducible exact cv_intK) | (with_reducible exact cv_sum) | (with_reducible exact cv_all) | (with_reducible exact cv_any) | ((with_reducible apply cv_lenK); rfl)
  | (exact ov_ixT rfl rfl) | (exact ov_ixL rfl)
  | with_reducible apply dv_din | with_reducible apply dv_dnotin
  | (show D.items _ = some _; rfl) | (show D.seq _ = some _; rfl) | ((show WF _); assumption))
local macro_rules | `(tactic| walk_at "s") => `(tactic| first | with_reducible apply cl_power_in | with_reducible apply cl_size_in | with_reducible apply cl_weight_of | with_reducible apply cl_rows_in | with_reducible apply cl_web_in | with_reducible apply cl_movers_in | with_reducible apply cl_moved_in | with_reducible apply cl_still_in | with_reducible apply cl_moved_by | with_reducible apply cl_movers_on | with_reducible apply cl_struck_by | with_reducible apply cl_subsets_of | with_reducible apply cl_cut_in | with_reducible apply cl_log_in | with_reducible apply cl_row_power | with_reducible apply cl_power_in_rows | with_reducible apply cl_alike_in | with_reducible apply cl_is_undivided | with_reducible apply cl_is_whole_number | with_reducible apply cl_is_count | with_reducible apply cl_is_small_prime | with_reducible apply cl_is_pair | with_reducible apply cl_are_rising | with_reducible apply cl_are_primes_among )
theorem pw_at {ns : List Int} (h : ns.Pairwise (· < ·)) {i j : Nat} {a b : Int} (hi : ns[i]? = some a) (hj : ns[j]? = some b) (hij : i < j) : a < b := by
  obtain ⟨h1, rfl⟩ := List.getElem?_eq_some_iff.mp hi
  obtain ⟨h2, rfl⟩ := List.getElem?_eq_some_iff.mp hj
  exact List.pairwise_iff_getElem.mp h i j h1 h2 hij
section
variable {P : Program} {w : World} {K : PySem.W.Frag} {mg : Str → Option Value} {base : Heap} {f : Addr} {fd : FuncData} {tv : Value} {sl : List Sl} {tr : TA} {E : XK}
theorem ds_forE {α : Type} {wi : TI} {g : TG} {t : TS} {P : Post} (xs : List α) (ds : List D) (us : Nat → α → List (Nat × D)) (I : Nat → List Sl → Prop) (F : Nat → α → D) (hi : DIt wi sl ds) (hl : ds = xs.zipIdx.map fun p => F p.2 p.1) (hg : ∀ i x, xs[i]? = some x → DG g (F i x) (us i x)) (h0 : I 0 sl)
    (hs : ∀ i x s, xs[i]? = some x → I i s → DS t (setS s (us i x)) { nx := I (i + 1), ct := I (i + 1), bk := P.nx, rt := P.rt, rm := P.rm }) (hd : ∀ s, I xs.length s → P.nx s) : DS (tFor wi g t) sl P := by
  have at' : ∀ {i : Nat} {p : α × Nat}, xs.zipIdx[i]? = some p → xs[i]? = some p.1 ∧ p.2 = i := fun {i p} h => by
    rw [List.getElem?_zipIdx] at h
    obtain ⟨x, hx, e⟩ := Option.map_eq_some_iff.mp h
    subst e
    exact ⟨hx, by simp⟩
  refine ds_for xs.zipIdx (fun p => F p.2 p.1) (fun p => us p.2 p.1) I (by rw [← hl]; exact hi) (fun p hp => ?_) h0 (fun i p s hp hI => ?_) (fun s hI => hd s (by rwa [List.length_zipIdx] at hI))
  · obtain ⟨i, hi⟩ := List.getElem?_of_mem hp
    obtain ⟨h1, h2⟩ := at' hi
    rw [h2]
    exact hg i p.1 h1
  · obtain ⟨h1, h2⟩ := at' hp
    have := hs i p.1 s h1 hI
    rw [h2]
    exact this
theorem enum_map {α : Type} (E : α → D) (xs : List α) : enumD (xs.map E) = xs.zipIdx.map fun p => D.tup [.int (p.2 : Nat), E p.1] := by
  unfold enumD
  rw [List.zipIdx_map, List.map_map] <;> rfl

abbrev s_prime_fault : Stmt := topS 37
abbrev N_prime_fault : List Str := ["primes", "k", "prime"]
theorem sc_prime_fault : FnScope N_prime_fault ["primes"] (defScope s_prime_fault) := ⟨rfl, rfl, rfl, by decide +kernel, rfl, by decide +kernel, by decide +kernel⟩
def sp_prime_fault : Sp := spF (fun x : List Int => [dFI x]) (fun x => (∀ p ∈ x, p ∈ PS) ∧ x.length ≤ 5 ∧ x.Pairwise (· < ·)) (fun _ => .non)
theorem ok_prime_fault (D_is_small_prime : Def P w K mg base "is_small_prime" ["value"] [] 2 sp_is_small_prime) (B : Blt mg tv) (F : Fun K "prime_fault" "prime_fault" s_prime_fault f fd) : FnOk P w K mg base CX0 3 f fd ["primes"] sp_prime_fault := by
  have nd := sc_prime_fault.nd
  refine F.ok (k := 2) sc_prime_fault (fun vs H Q E h => spF_len (n:=1) (fun _ => rfl) h) (fun cdv A outer s H vs Q E hr h => ?_)
  refine ⟨_, (pss_cons (ps_for PassesOwn.never rfl (pi_enumTK K rfl B.enumerate_ (pa_cons (pv 0) pa_nil)) (pg_tupK (n := 2) K rfl (pgs_cons (pg_name (i := 1) nd rfl (Or.inl rfl)) (pgs_cons (pg_name (i := 2) nd rfl (Or.inl rfl)) pgs_nil))) (pss_cons (ps_if (pt_not (pt_val (pe_def D_is_small_prime (hr.mono (by decide)) (by rfl) (pa_cons (pv 2) pa_nil)))) (pss_one (ps_ret (pe_tup (pa_cons pe_str (pa_cons (pv 1) pa_nil))))) pss_nil)
      (pss_one (ps_if (PW.pt (pw_and (pt_cmpR op_gt (pv 1) pe_int (nomark _)) (pw_and1 (pt_cmpR op_le (pv 2) (pe_ix (ix_tupK K) (pv 0) (pe_op op_sub (pv 1) pe_int) (fun _ _ => rfl)) (nomark _))))) (pss_one (ps_ret (pe_tup (pa_cons pe_str (pa_cons (pv 1) pa_nil))))) pss_nil))))
      (pss_one (ps_ret pe_non))), body_ok (N := N_prime_fault) h fun x hp => ?_⟩
  obtain ⟨h1, h2, h3⟩ := hp
  show DS _ [.d (dFI x), .un, .un] _
  apply ds_seq
  refine ds_forE x (enumD (x.map D.int)) (fun i p => [(1, .int (i : Nat)), (2, .int p)]) (fun i s => ∃ a b, s = [.d (dFI x), a, b]) (fun i p => .tup [.int (i : Nat), .int p]) (di_enumT (d := dFI x) ?_ rfl) (enum_map _ _) (fun _ _ _ => dg_tup rfl (dgs_cons (dgs_cons dgs_nil))) ⟨_, _, rfl⟩ ?_ ?_
  · repeat' walk_at "s"
  · rintro i p s hi ⟨a, b, rfl⟩
    have hq := h1 p (mem_at hi)
    apply ds_seq
    apply ds_if (b := !true)
    · repeat' walk_at "s"
      exact hq
    · intro hb
      cases hb
    · intro _
      apply ds_nx
      cases i with
      | zero =>
        apply ds_if (b := false && false)
        · refine dt_and ?_ (fun h => by cases h)
          apply DT.cast
          · repeat' walk_at "s"
          · rfl
        · intro hb
          cases hb
        · intro _
          apply ds_nx
          exact ⟨_, _, rfl⟩
      | succ i =>
        have hl : i + 1 < x.length := (List.getElem?_eq_some_iff.mp hi).1
        have h4 : x[i]? = some x[i] := List.getElem?_eq_getElem (by omega)
        have h5 := pw_at h3 h4 hi (by omega)
        apply ds_if (b := decide (0 < ((i + 1 : Nat) : Int)) && decide (p ≤ x[i]))
        · apply dt_and
          · repeat' walk_at "s"
          · intro _
            apply dt_test
            apply dv_op
            · repeat' walk_at "s"
            · apply dv_op
              · repeat' walk_at "s"
              · repeat' walk_at "s"
              · exact ov_ixT rfl ((congrArg (atI _) (show (((i + 1 : Nat) : Int) - 1) = (i : Int) by omega)).trans (atI_nat (by rw [List.getElem?_map, h4] <;> rfl)))
            · exact ov_B0
        · intro hb
          rw [decide_eq_false (show ¬ p ≤ x[i] by omega), Bool.and_false] at hb
          cases hb
        · intro _
          apply ds_nx
          exact ⟨_, _, rfl⟩
  · rintro s ⟨a, b, rfl⟩
    apply ds_ret
    · repeat' walk_at "s"
    · rfl
theorem cl_prime_fault {ns : List Int} (h : DA tr sl [dFI ns]) (hp : (∀ p ∈ ns, p ∈ PS) ∧ ns.length ≤ 5 ∧ ns.Pairwise (· < ·)) : DV (tCall sp_prime_fault [] E tr) sl .non := dv_call0 (enc := fun x : List Int => [dFI x]) ns h hp
local macro_rules | `(tactic| walk_at "s") => `(tactic| with_reducible apply cl_prime_fault)

theorem es_mod {m q : Int} (h : (m, q) ∈ ES) : (q - 1) % m = 0 ∧ q ≠ m := by
  simp only [ES, List.mem_cons, List.not_mem_nil, or_false, Prod.mk.injEq] at h
  rcases h with ⟨rfl, rfl⟩ | ⟨rfl, rfl⟩ | ⟨rfl, rfl⟩ | ⟨rfl, rfl⟩ | ⟨rfl, rfl⟩ | ⟨rfl, rfl⟩ | ⟨rfl, rfl⟩ | ⟨rfl, rfl⟩ | ⟨rfl, rfl⟩ | ⟨rfl, rfl⟩ | ⟨rfl, rfl⟩ <;> decide
abbrev s_move_fault : Stmt := topS 38
abbrev N_move_fault : List Str := ["primes", "mover", "row", "j", "late", "root"]
theorem sc_move_fault : FnScope N_move_fault ["primes", "mover", "row", "j"] (defScope s_move_fault) := ⟨rfl, rfl, rfl, by decide +kernel, rfl, by decide +kernel, by decide +kernel⟩
def sp_move_fault : Sp := spF (fun x : List Int × (Int × Row) × Nat => [dFI x.1, .int x.2.1.1, dRow x.2.1.2, .int (x.2.2 : Nat)]) (fun x => WFm x.1 x.2.1 ∧ (∀ p ∈ x.1, p ∈ PS) ∧ x.2.2 < x.2.1.2.length) (fun _ => .non)
theorem ok_move_fault (D_is_pair : Def P w K mg base "is_pair" ["value"] [] 1 sp_is_pair) (D_is_whole_number : Def P w K mg base "is_whole_number" ["value"] [] 1 sp_is_whole_number) (D_power_in : Def P w K mg base "power_in" ["base", "k", "prime"] [] 1 sp_power_in) (F : Fun K "move_fault" "move_fault" s_move_fault f fd) : FnOk P w K mg base CX0 2 f fd ["primes", "mover", "row", "j"] sp_move_fault := by
  have nd := sc_move_fault.nd
  refine F.ok (k := 1) sc_move_fault (fun vs H Q E h => spF_len (n:=4) (fun _ => rfl) h) (fun cdv A outer s H vs Q E hr h => ?_)
  refine ⟨_, (pss_cons (ps_if (pt_not (pt_val (pe_def D_is_pair (hr.mono (by decide)) (by rfl) (pa_cons (pe_ix (ix_tupK K) (pv 2) (pv 3) (fun _ _ => rfl)) pa_nil)))) (pss_one (ps_ret pe_str)) pss_nil)
      (pss_cons (ps_asg (pe_ix (ix_tupK K) (pv 2) (pv 3) (fun _ _ => rfl)) (pg_tupK (n := 2) K rfl (pgs_cons (pg_name (i := 4) nd rfl (Or.inl rfl)) (pgs_cons (pg_name (i := 5) nd rfl (Or.inl rfl)) pgs_nil))))
      (pss_cons (ps_if (PW.pt (pw_or (pt_not (pt_val (pe_def D_is_whole_number (hr.mono (by decide)) (by rfl) (pa_cons (pv 4) pa_nil)))) (pw_or (pt_not (pt_val (pe_def D_is_whole_number (hr.mono (by decide)) (by rfl) (pa_cons (pv 5) pa_nil)))) (pw_or (pt_cmpR (op_notInK K) (pv 4) (pv 0) (rfl)) (pw_or1 (pt_cmpR op_eq (pv 4) (pv 1) (nomark _))))))) (pss_one (ps_ret pe_str)) pss_nil)
      (pss_cons (ps_if (PW.pt (pw_or (pt_cmpR op_ne (pe_op op_mod (pe_op op_sub (pv 4) pe_int) (pv 1)) pe_int (nomark _)) (pw_or1 (PW.pt (pw_and (pt_cmpR op_gt (pv 3) pe_int (nomark _)) (pw_and1 (pt_cmpR op_le (pv 4) (pe_ix (ix_tupK K) (pe_ix (ix_tupK K) (pv 2) (pe_op op_sub (pv 3) pe_int) (fun _ _ => rfl)) pe_int (fun _ _ => rfl)) (nomark _)))))))) (pss_one (ps_ret pe_str)) pss_nil)
      (pss_one (ps_ret (pe_ifExp (PW.pt (pw_and (pt_chain op_lt op_lt pe_int (pv 5) (pv 4)) (pw_and1 (pt_cmpR op_eq (pe_def D_power_in (hr.mono (by decide)) (by rfl) (pa_cons (pv 5) (pa_cons (pv 1) (pa_cons (pv 4) pa_nil)))) pe_int (nomark _))))) pe_non pe_str))))))), body_ok (N := N_move_fault) h fun x hp => ?_⟩
  obtain ⟨ns, ⟨m, r⟩, j⟩ := x
  obtain ⟨h1, h2, h3⟩ := hp
  dsimp only at h1 h2 h3
  have m2 := ps_lo (h2 m h1.mi)
  have hj : r[j]? = some r[j] := List.getElem?_eq_getElem h3
  generalize r[j] = e at hj
  obtain ⟨a1, a2, a3, a4, a5⟩ := h1.ed e (mem_at hj)
  dsimp only at a2 a5
  have b2 := ps_lo (h2 _ a1)
  obtain ⟨c1, c2⟩ := es_mod a2
  have ix : OV (rIxT K) (dRow r) (.int (j : Nat)) (dPr e) := ov_ixT rfl (atI_nat (by rw [List.getElem?_map, hj] <;> rfl))
  show DS _ [.d (dFI ns), .d (.int m), .d (dRow r), .d (.int (j : Nat)), .un, .un] _
  apply ds_seq
  apply ds_if (b := !true)
  · apply dt_not
    apply dt_test
    apply cl_is_pair (d := dPr e)
    · apply da_cons
      · apply dv_op
        · repeat' walk_at "s"
        · repeat' walk_at "s"
        · exact ix
      · exact da_nil
    · rfl
  · intro hb
    cases hb
  · intro _
    apply ds_nx
    apply ds_seq
    apply ds_asg (us := [(4, .int e.1), (5, .int e.2)])
    · apply dv_op
      · repeat' walk_at "s"
      · repeat' walk_at "s"
      · exact ix
    · exact dg_tup rfl (dgs_cons (dgs_cons dgs_nil))
    apply ds_seq
    apply ds_if (b := !true || (!true || (!decide (e.1 ∈ ns) || decide (e.1 = m))))
    · apply dt_or
      · repeat' walk_at "s"
      · intro _
        apply dt_or
        · repeat' walk_at "s"
        · intro _
          apply dt_or
          · repeat' walk_at "s"
            exact ov_notIn rfl
          · intro _
            repeat' walk_at "s"
    · intro hb
      simp [a1, c2] at hb
    · intro _
      apply ds_nx
      apply ds_seq
      cases j with
      | zero =>
        apply ds_if (b := !decide ((e.1 - 1) % m = 0) || (false && false))
        · apply dt_or
          · repeat' walk_at "s"
          · intro _
            refine dt_and ?_ (fun h => by cases h)
            apply DT.cast
            · repeat' walk_at "s"
            · rfl
        · intro hb
          simp [c1] at hb
        · intro _
          apply ds_nx
          apply ds_ret (d := .non)
          · apply dv_if (b := (decide (1 < e.2) && decide (e.2 < e.1)) && decide (upM e.2 m.toNat e.1 = 1))
            · apply dt_and
              · repeat' walk_at "s"
              · intro _
                repeat' walk_at "s"
                exact ⟨by omega, by omega, by omega⟩
            · intro _
              exact dv_non
            · intro hb
              simp [a3, a4, a5] at hb
          · rfl
      | succ j =>
        have h4 : r[j]? = some r[j] := List.getElem?_eq_getElem (by omega)
        have h5 := pw_at h1.so (i := j) (j := j + 1) (a := r[j].1) (b := e.1) (by rw [List.getElem?_map, h4] <;> rfl) (by rw [List.getElem?_map, hj] <;> rfl) (by omega)
        apply ds_if (b := !decide ((e.1 - 1) % m = 0) || (decide (0 < ((j + 1 : Nat) : Int)) && decide (e.1 ≤ r[j].1)))
        · apply dt_or
          · repeat' walk_at "s"
          · intro _
            apply dt_and
            · repeat' walk_at "s"
            · intro _
              apply dt_test
              apply dv_op
              · repeat' walk_at "s"
              · apply dv_op
                · apply dv_op
                  · repeat' walk_at "s"
                  · repeat' walk_at "s"
                  · exact ov_ixT (f := dPr r[j]) rfl ((congrArg (atI _) (show (((j + 1 : Nat) : Int) - 1) = (j : Int) by omega)).trans (atI_nat (by rw [List.getElem?_map, h4] <;> rfl)))
                · repeat' walk_at "s"
                · exact ov_ixT rfl rfl
              · exact ov_B0
        · intro hb
          simp [c1, show ¬ e.1 ≤ r[j].1 by omega] at hb
        · intro _
          apply ds_nx
          apply ds_ret (d := .non)
          · apply dv_if (b := (decide (1 < e.2) && decide (e.2 < e.1)) && decide (upM e.2 m.toNat e.1 = 1))
            · apply dt_and
              · repeat' walk_at "s"
              · intro _
                repeat' walk_at "s"
                exact ⟨by omega, by omega, by omega⟩
            · intro _
              exact dv_non
            · intro hb
              simp [a3, a4, a5] at hb
          · rfl
theorem cl_move_fault {ns : List Int} {m : Int × Row} {j : Nat} (h : DA tr sl [dFI ns, .int m.1, dRow m.2, .int (j : Nat)]) (hp : WFm ns m ∧ (∀ p ∈ ns, p ∈ PS) ∧ j < m.2.length) : DV (tCall sp_move_fault [] E tr) sl .non := dv_call0 (enc := fun x : List Int × (Int × Row) × Nat => [dFI x.1, .int x.2.1.1, dRow x.2.1.2, .int (x.2.2 : Nat)]) (ns, m, j) h hp
local macro_rules | `(tactic| walk_at "s") => `(tactic| with_reducible apply cl_move_fault)

abbrev s_row_fault : Stmt := topS 39
abbrev N_row_fault : List Str := ["primes", "moves", "k", "mover", "row", "j", "found"]
theorem sc_row_fault : FnScope N_row_fault ["primes", "moves", "k"] (defScope s_row_fault) := ⟨rfl, rfl, rfl, by decide +kernel, rfl, by decide +kernel, by decide +kernel⟩
def sp_row_fault : Sp := spF (fun x : Tab × Nat => [dFI x.1.1, .tuf (x.1.2.map dMv), .int (x.2 : Nat)]) (fun x => WF x.1 ∧ x.2 < x.1.2.length) (fun _ => .non)
theorem ok_row_fault (D_is_pair : Def P w K mg base "is_pair" ["value"] [] 1 sp_is_pair) (D_is_whole_number : Def P w K mg base "is_whole_number" ["value"] [] 1 sp_is_whole_number) (D_move_fault : Def P w K mg base "move_fault" ["primes", "mover", "row", "j"] [] 2 sp_move_fault) (B : Blt mg tv) (F : Fun K "row_fault" "row_fault" s_row_fault f fd) : FnOk P w K mg base CX0 3 f fd ["primes", "moves", "k"] sp_row_fault := by
  have nd := sc_row_fault.nd
  refine F.ok (k := 2) sc_row_fault (fun vs H Q E h => spF_len (n:=3) (fun _ => rfl) h) (fun cdv A outer s H vs Q E hr h => ?_)
  refine ⟨_, (pss_cons (ps_if (pt_not (pt_val (pe_def D_is_pair (hr.mono (by decide)) (by rfl) (pa_cons (pe_ix (ix_tupK K) (pv 1) (pv 2) (fun _ _ => rfl)) pa_nil)))) (pss_one (ps_ret (pe_tup (pa_cons pe_str (pa_cons (pv 2) pa_nil))))) pss_nil)
      (pss_cons (ps_asg (pe_ix (ix_tupK K) (pv 1) (pv 2) (fun _ _ => rfl)) (pg_tupK (n := 2) K rfl (pgs_cons (pg_name (i := 3) nd rfl (Or.inl rfl)) (pgs_cons (pg_name (i := 4) nd rfl (Or.inl rfl)) pgs_nil))))
      (pss_cons (ps_if (PW.pt (pw_or (pt_not (pt_val (pe_def D_is_whole_number (hr.mono (by decide)) (by rfl) (pa_cons (pv 3) pa_nil)))) (pw_or (pt_cmpR (op_notInK K) (pv 3) (pv 0) (rfl)) (pw_or (pt_not (pt_val (pe_callB (call_isiK K) (by rfl) B.isinstance_ (by decide +kernel) (pa_cons (pv 4) (pa_cons (pe_bltn (v := .ty "tuple") (by rfl) B.tuple_ (by decide +kernel) rfl) pa_nil))))) (pw_or1 (pt_cmpR (op_eqDK K hr.units) (pv 4) (pe_tup pa_nil) (nomark _))))))) (pss_one (ps_ret (pe_tup (pa_cons pe_str (pa_cons (pv 2) pa_nil))))) pss_nil)
      (pss_cons (ps_if (PW.pt (pw_and (pt_cmpR op_gt (pv 2) pe_int (nomark _)) (pw_and1 (pt_cmpR op_le (pv 3) (pe_ix (ix_tupK K) (pe_ix (ix_tupK K) (pv 1) (pe_op op_sub (pv 2) pe_int) (fun _ _ => rfl)) pe_int (fun _ _ => rfl)) (nomark _))))) (pss_one (ps_ret (pe_tup (pa_cons pe_str (pa_cons (pv 2) pa_nil))))) pss_nil)
      (pss_cons (ps_for PassesOwn.never rfl (pi_range1 rfl B.range_ (pa_cons (pe_callB (call_lenK K) (by rfl) B.len_ (by decide +kernel) (pa_cons (pv 4) pa_nil)) pa_nil)) (pg_name (i := 5) nd rfl (Or.inl rfl)) (pss_cons (ps_set (i := 6) nd rfl (Or.inl rfl) (pe_def D_move_fault (hr.mono (by decide)) (by rfl) (pa_cons (pv 0) (pa_cons (pv 3) (pa_cons (pv 4) (pa_cons (pv 5) pa_nil))))))
      (pss_one (ps_if (pt_cmpR op_notN (pv 6) pe_non (nomark _)) (pss_one (ps_ret (pe_tup (pa_cons (pv 6) (pa_cons (pe_tup (pa_cons (pv 2) (pa_cons (pv 5) pa_nil))) pa_nil))))) pss_nil))))
      (pss_one (ps_ret pe_non))))))), body_ok (N := N_row_fault) h fun x hp => ?_⟩
  obtain ⟨T, k⟩ := x
  obtain ⟨hw, hk⟩ := hp
  dsimp only at hw hk
  have hm : T.2[k]? = some T.2[k] := List.getElem?_eq_getElem hk
  generalize T.2[k] = m at hm
  have wm := hw.mv m (mem_at hm)
  have ix : OV (rIxT K) (.tuf (T.2.map dMv)) (.int (k : Nat)) (dMv m) := ov_ixT rfl (atI_nat (by rw [List.getElem?_map, hm] <;> rfl))
  show DS _ [.d (dFI T.1), .d (.tuf (T.2.map dMv)), .d (.int (k : Nat)), .un, .un, .un, .un] _
  apply ds_seq
  apply ds_if (b := !true)
  · apply dt_not
    apply dt_test
    apply cl_is_pair (d := dMv m)
    · apply da_cons
      · apply dv_op
        · repeat' walk_at "s"
        · repeat' walk_at "s"
        · exact ix
      · exact da_nil
    · rfl
  · intro hb
    cases hb
  intro _
  apply ds_nx
  apply ds_seq
  apply ds_asg (us := [(3, .int m.1), (4, dRow m.2)])
  · apply dv_op
    · repeat' walk_at "s"
    · repeat' walk_at "s"
    · exact ix
  · exact dg_tup rfl (dgs_cons (dgs_cons dgs_nil))
  apply ds_seq
  apply ds_if (b := !true || (!decide (m.1 ∈ T.1) || (!true || decide (m.2 = []))))
  · apply dt_or
    · repeat' walk_at "s"
    · intro _
      apply dt_or
      · repeat' walk_at "s"
        exact ov_notIn rfl
      · intro _
        apply dt_or
        · apply dt_not
          apply dt_test
          exact dv_isTup (dv_var rfl) rfl
        · intro _
          repeat' walk_at "s"
          exact ov_eqT eqPr (by decide) rfl rfl
  · intro hb
    simp [wm.mi, wm.ne] at hb
  intro _
  apply ds_nx
  apply ds_seq
  apply ds_if (b := false)
  · cases k with
    | zero =>
      refine dt_and (a := false) (b := false) ?_ (fun h => by cases h)
      apply DT.cast
      · repeat' walk_at "s"
      · rfl
    | succ k =>
      have h4 : T.2[k]? = some T.2[k] := List.getElem?_eq_getElem (by omega)
      have h5 := pw_at hw.ms (i := k) (j := k + 1) (a := T.2[k].1) (b := m.1) (by rw [List.getElem?_map, h4] <;> rfl) (by rw [List.getElem?_map, hm] <;> rfl) (by omega)
      refine DT.cast (a := decide (0 < ((k + 1 : Nat) : Int)) && decide (m.1 ≤ T.2[k].1)) ?_ (by rw [decide_eq_false (show ¬ m.1 ≤ T.2[k].1 by omega), Bool.and_false])
      apply dt_and
      · repeat' walk_at "s"
      · intro _
        apply dt_test
        apply dv_op
        · repeat' walk_at "s"
        · apply dv_op
          · apply dv_op
            · repeat' walk_at "s"
            · repeat' walk_at "s"
            · exact ov_ixT (f := dMv T.2[k]) rfl ((congrArg (atI _) (show (((k + 1 : Nat) : Int) - 1) = (k : Int) by omega)).trans (atI_nat (by rw [List.getElem?_map, h4] <;> rfl)))
          · repeat' walk_at "s"
          · exact ov_ixT rfl rfl
        · exact ov_B0
  · intro hb
    cases hb
  intro _
  apply ds_nx
  apply ds_seq
  refine ds_for (List.range ((m.2.map dPr).length : Int).toNat) (fun i => .int (0 + (i : Int))) (fun i => [(5, .int (0 + (i : Int)))]) (fun i s => ∃ a b, s = [.d (dFI T.1), .d (.tuf (T.2.map dMv)), .d (.int (k : Nat)), .d (.int m.1), .d (dRow m.2), a, b]) (di_rng1 ?_ (by rw [List.length_map]; have := wm.ln; omega)) (fun _ _ => dg_name) ⟨_, _, rfl⟩ ?_ ?_
  · repeat' walk_at "s"
  · rintro i j s hi ⟨a, b, rfl⟩
    obtain ⟨hj, e⟩ := List.getElem?_eq_some_iff.mp hi
    rw [List.getElem_range] at e
    subst e
    rw [List.length_range, List.length_map] at hj
    apply ds_seq
    apply ds_set (d := .non)
    · apply cl_move_fault (ns := T.1) (m := m) (j := i)
      · apply da_cons
        · repeat' walk_at "s"
        apply da_cons
        · repeat' walk_at "s"
        apply da_cons
        · repeat' walk_at "s"
        apply da_cons
        · exact DV.cast (dv_var rfl) (congrArg D.int (by omega))
        · exact da_nil
      · exact ⟨wm, hw.pin, by omega⟩
    apply ds_if (b := !D.non.isN)
    · repeat' walk_at "s"
    · intro hb
      cases hb
    · intro _
      apply ds_nx
      exact ⟨_, _, rfl⟩
  · rintro s ⟨a, b, rfl⟩
    apply ds_ret
    · repeat' walk_at "s"
    · rfl
theorem cl_row_fault {T : Tab} {k : Nat} (h : DA tr sl [dFI T.1, .tuf (T.2.map dMv), .int (k : Nat)]) (hp : WF T ∧ k < T.2.length) : DV (tCall sp_row_fault [] E tr) sl .non := dv_call0 (enc := fun x : Tab × Nat => [dFI x.1.1, .tuf (x.1.2.map dMv), .int (x.2 : Nat)]) (T, k) h hp
local macro_rules | `(tactic| walk_at "s") => `(tactic| with_reducible apply cl_row_fault)

abbrev s_table_fault : Stmt := topS 40
abbrev N_table_fault : List Str := ["value", "primes", "moves", "found", "k", "gone", "pair", "late", "root"]
theorem sc_table_fault : FnScope N_table_fault ["value"] (defScope s_table_fault) := ⟨rfl, rfl, rfl, by decide +kernel, rfl, by decide +kernel, by decide +kernel⟩
def sp_table_fault : Sp := spF (fun x : Tab => [dTab x]) WF (fun _ => .non)
def goneD (ms : List (Int × Row)) : List (Int × D) := mergeD [] ((ms.flatMap fun m => m.2.map (·.1)).map fun q => (q, .bl true))
theorem merge_snoc (ks ms : List (Int × D)) (k : Int) (d : D) : mergeD ks (ms ++ [(k, d)]) = putD (mergeD ks ms) k d := List.foldl_append ..
theorem putD_len (ks : List (Int × D)) (k : Int) (d : D) : (putD ks k d).length ≤ ks.length + 1 := by
  unfold putD
  split
  · rw [List.length_map]
    omega
  · rw [List.length_append] <;> exact Nat.le_refl _
theorem merge_len : ∀ (ms ks : List (Int × D)), (mergeD ks ms).length ≤ ks.length + ms.length
  | [], ks => Nat.le_refl _
  | (k, d) :: ms, ks => by
    have := merge_len ms (putD ks k d)
    have := putD_len ks k d
    show (mergeD (putD ks k d) ms).length ≤ _
    rw [List.length_cons]
    omega
theorem ok_table_fault (D_is_pair : Def P w K mg base "is_pair" ["value"] [] 1 sp_is_pair) (D_prime_fault : Def P w K mg base "prime_fault" ["primes"] [] 3 sp_prime_fault) (D_row_fault : Def P w K mg base "row_fault" ["primes", "moves", "k"] [] 3 sp_row_fault) (B : Blt mg tv) (F : Fun K "table_fault" "table_fault" s_table_fault f fd) : FnOk P w K mg base CX0 4 f fd ["value"] sp_table_fault := by
  have nd := sc_table_fault.nd
  refine F.ok (k := 3) sc_table_fault (fun vs H Q E h => spF_len (n:=1) (fun _ => rfl) h) (fun cdv A outer s H vs Q E hr h => ?_)
  refine ⟨_, (pss_cons (ps_if (PW.pt (pw_or (pt_not (pt_val (pe_def D_is_pair (hr.mono (by decide)) (by rfl) (pa_cons (pv 0) pa_nil)))) (pw_or (pt_not (pt_val (pe_callB (call_isiK K) (by rfl) B.isinstance_ (by decide +kernel) (pa_cons (pe_ix (ix_tupK K) (pv 0) pe_int (fun _ _ => rfl)) (pa_cons (pe_bltn (v := .ty "tuple") (by rfl) B.tuple_ (by decide +kernel) rfl) pa_nil))))) (pw_or1 (pt_not (pt_val (pe_callB (call_isiK K) (by rfl) B.isinstance_ (by decide +kernel) (pa_cons (pe_ix (ix_tupK K) (pv 0) pe_int (fun _ _ => rfl)) (pa_cons (pe_bltn (v := .ty "tuple") (by rfl) B.tuple_ (by decide +kernel) rfl) pa_nil))))))))) (pss_one (ps_ret (pe_tup (pa_cons pe_str (pa_cons (pe_un un_neg pe_int) pa_nil))))) pss_nil)
      (pss_cons (ps_asg (pv 0) (pg_tupK (n := 2) K rfl (pgs_cons (pg_name (i := 1) nd rfl (Or.inl rfl)) (pgs_cons (pg_name (i := 2) nd rfl (Or.inl rfl)) pgs_nil))))
      (pss_cons (ps_set (i := 3) nd rfl (Or.inl rfl) (pe_def D_prime_fault (hr.mono (by decide)) (by rfl) (pa_cons (pv 1) pa_nil)))
      (pss_cons (ps_if (pt_cmpR op_notN (pv 3) pe_non (nomark _)) (pss_one (ps_ret (pv 3))) pss_nil)
      (pss_cons (ps_for PassesOwn.never rfl (pi_range1 rfl B.range_ (pa_cons (pe_callB (call_lenK K) (by rfl) B.len_ (by decide +kernel) (pa_cons (pv 2) pa_nil)) pa_nil)) (pg_name (i := 4) nd rfl (Or.inl rfl)) (pss_cons (ps_set (i := 3) nd rfl (Or.inl rfl) (pe_def D_row_fault (hr.mono (by decide)) (by rfl) (pa_cons (pv 1) (pa_cons (pv 2) (pa_cons (pv 4) pa_nil)))))
      (pss_one (ps_if (pt_cmpR op_notN (pv 3) pe_non (nomark _)) (pss_one (ps_ret (pv 3))) pss_nil))))
      (pss_cons (ps_set (i := 5) nd rfl (Or.inl rfl) pe_dnewK)
      (pss_cons (ps_for PassesOwn.never rfl (pi_tupK K (pv 2)) (pg_name (i := 6) nd rfl (Or.inl rfl)) (pss_one (ps_for PassesOwn.never rfl (pi_tupK K (pe_ix (ix_tupK K) (pv 6) pe_int (fun _ _ => rfl))) (pg_tupK (n := 2) K rfl (pgs_cons (pg_name (i := 7) nd rfl (Or.inl rfl)) (pgs_cons (pg_name (i := 8) nd rfl (Or.inl rfl)) pgs_nil))) (pss_one (ps_dput (hu_of hr) (pv 5) (pv 7) pe_bl rfl)))))
      (pss_cons (ps_for PassesOwn.never rfl (pi_enumTK K rfl B.enumerate_ (pa_cons (pv 2) pa_nil)) (pg_tupK (n := 2) K rfl (pgs_cons (pg_name (i := 4) nd rfl (Or.inl rfl)) (pgs_cons (pg_name (i := 6) nd rfl (Or.inl rfl)) pgs_nil))) (pss_one (ps_if (pt_cmp (pc_din (hu_of hr) (pe_ix (ix_tupK K) (pv 6) pe_int (fun _ _ => rfl)) (pv 5)) rfl) (pss_one (ps_ret (pe_tup (pa_cons pe_str (pa_cons (pv 4) pa_nil))))) pss_nil)))
      (pss_one (ps_ret pe_non)))))))))), body_ok (N := N_table_fault) h fun x hp => ?_⟩
  have hw : WF x := hp
  show DS _ [.d (dTab x), .un, .un, .un, .un, .un, .un, .un, .un] _
  apply ds_seq
  apply ds_if (b := !true || (!true || !true))
  · apply dt_or
    · apply dt_not
      apply dt_test
      exact cl_is_pair (da_cons (dv_var rfl) da_nil) rfl
    · intro _
      apply dt_or
      · apply dt_not
        apply dt_test
        exact dv_isTup (dv_op (dv_var rfl) dv_int (ov_ixT rfl rfl)) rfl
      · intro _
        apply dt_not
        apply dt_test
        exact dv_isTup (dv_op (dv_var rfl) dv_int (ov_ixT rfl rfl)) rfl
  · intro hb
    cases hb
  intro _
  apply ds_nx
  apply ds_seq
  apply ds_asg (us := [(1, dFI x.1), (2, .tuf (x.2.map dMv))])
  · exact dv_var rfl
  · exact dg_tup rfl (dgs_cons (dgs_cons dgs_nil))
  apply ds_seq
  apply ds_set (d := .non)
  · apply cl_prime_fault (ns := x.1)
    · repeat' walk_at "s"
    · exact ⟨hw.pin, hw.pl, hw.ps⟩
  apply ds_seq
  apply ds_if (b := !D.non.isN)
  · repeat' walk_at "s"
  · intro hb
    cases hb
  intro _
  apply ds_nx
  apply ds_seq
  refine ds_for (List.range ((x.2.map dMv).length : Int).toNat) (fun i => .int (0 + (i : Int))) (fun i => [(4, .int (0 + (i : Int)))]) (fun i s => ∃ a, s = [.d (dTab x), .d (dFI x.1), .d (.tuf (x.2.map dMv)), .d .non, a, .un, .un, .un, .un]) (di_rng1 ?_ (by rw [List.length_map]; have := hw.ml; omega)) (fun _ _ => dg_name) ⟨_, rfl⟩ ?_ ?_
  · repeat' walk_at "s"
  · rintro i j s hi ⟨a, rfl⟩
    obtain ⟨hj, e⟩ := List.getElem?_eq_some_iff.mp hi
    rw [List.getElem_range] at e
    subst e
    rw [List.length_range, List.length_map] at hj
    apply ds_seq
    apply ds_set (d := .non)
    · apply cl_row_fault (T := x) (k := i)
      · apply da_cons
        · repeat' walk_at "s"
        apply da_cons
        · repeat' walk_at "s"
        apply da_cons
        · exact DV.cast (dv_var rfl) (congrArg D.int (by omega))
        · exact da_nil
      · exact ⟨hw, by omega⟩
    apply ds_if (b := !D.non.isN)
    · repeat' walk_at "s"
    · intro hb
      cases hb
    · intro _
      apply ds_nx
      exact ⟨_, rfl⟩
  rintro s ⟨a, rfl⟩
  apply ds_seq
  apply ds_asgM (ks := [])
  · exact dm_new
  apply ds_seq
  have wl := web_len hw
  have glen : ∀ i, (x.2.take i).flatMap (fun m => m.2.map (·.1)) = (web (x.1, x.2.take i)).map (·.2) := fun i => by
    unfold web
    rw [List.map_flatMap]
    congr
    funext m
    rw [List.map_map] <;> rfl
  refine ds_for x.2 dMv (fun m => [(6, dMv m)]) (fun i s => ∃ b c e, s = [.d (dTab x), .d (dFI x.1), .d (.tuf (x.2.map dMv)), .d .non, a, .md (goneD (x.2.take i)), b, c, e]) (di_tup (d := .tuf (x.2.map dMv)) ?_ rfl) (fun _ _ => dg_name) ⟨_, _, _, rfl⟩ ?_ ?_
  · repeat' walk_at "s"
  · rintro i m s hi ⟨b, c, e, rfl⟩
    have wl2 := web_cut hw i
    have rl := (hw.mv m (mem_at hi)).ln
    refine ds_for m.2 dPr (fun e => [(7, .int e.1), (8, .int e.2)]) (fun j s => ∃ c e, s = [.d (dTab x), .d (dFI x.1), .d (.tuf (x.2.map dMv)), .d .non, a, .md (mergeD [] (((x.2.take i).flatMap (fun m => m.2.map (·.1)) ++ (m.2.take j).map (·.1)).map fun q => (q, .bl true))), .d (dMv m), c, e]) (di_tup (d := dRow m.2) ?_ rfl) (fun _ _ => dg_tup rfl (dgs_cons (dgs_cons dgs_nil))) ⟨c, e, by rw [List.take_zero, List.map_nil, List.append_nil] <;> rfl⟩ ?_ ?_
    · repeat' walk_at "s"
    · rintro j q s hj ⟨c, e, rfl⟩
      have h1 : mergeD [] (((x.2.take i).flatMap (fun m => m.2.map (·.1)) ++ (m.2.take (j + 1)).map (·.1)).map fun q => (q, D.bl true)) = putD (mergeD [] (((x.2.take i).flatMap (fun m => m.2.map (·.1)) ++ (m.2.take j).map (·.1)).map fun q => (q, D.bl true))) q.1 (.bl true) := by
        rw [take_snoc hj, show ∀ A : List Int, A ++ (m.2.take j ++ [q]).map (·.1) = (A ++ (m.2.take j).map (·.1)) ++ [q.1] from fun A => by rw [List.map_append, ← List.append_assoc] <;> rfl, List.map_append]
        exact merge_snoc _ _ _ _
      apply ds_dput (ks := mergeD [] (((x.2.take i).flatMap (fun m => m.2.map (·.1)) ++ (m.2.take j).map (·.1)).map fun q => (q, .bl true))) rfl
      · repeat' walk_at "s"
      · repeat' walk_at "s"
      · have := merge_len (((x.2.take i).flatMap (fun m => m.2.map (·.1)) ++ (m.2.take j).map (·.1)).map fun q => (q, D.bl true)) []
        have h0 : ([] : List (Int × D)).length = 0 := rfl
        have h9 : (((x.2.take i).flatMap (fun m => m.2.map (·.1)) ++ (m.2.take j).map (·.1)).map fun q => (q, D.bl true)).length ≤ 30 := by
          rw [List.length_map, List.length_append, glen, List.length_map, List.length_map, List.length_take]
          omega
        omega
      · exact ⟨_, _, by rw [h1] <;> rfl⟩
    · rintro s ⟨c, e, rfl⟩
      exact ⟨_, _, _, by rw [goneD, take_snoc hi, List.flatMap_append, List.flatMap_cons, List.flatMap_nil, List.append_nil, List.take_length]⟩
  rintro s ⟨b, c, e, rfl⟩
  rw [List.take_length]
  refine ds_frzM 5 rfl ?_
  apply ds_seq
  refine ds_forE x.2 (enumD (x.2.map dMv)) (fun i m => [(4, .int (i : Nat)), (6, dMv m)]) (fun i s => ∃ a b, s = [.d (dTab x), .d (dFI x.1), .d (.tuf (x.2.map dMv)), .d .non, a, .d (.dic (goneD x.2)), b, c, e]) (fun i m => .tup [.int (i : Nat), dMv m]) (di_enumT (d := .tuf (x.2.map dMv)) ?_ rfl) (enum_map _ _) (fun _ _ _ => dg_tup rfl (dgs_cons (dgs_cons dgs_nil))) ⟨_, _, rfl⟩ ?_ ?_
  · repeat' walk_at "s"
  · rintro i m s hi ⟨a, b, rfl⟩
    have hg : (getD' (goneD x.2) m.1).isSome = false := by
      unfold goneD
      rw [merge_any0, List.any_map, List.any_eq_false]
      intro q hq hc
      have hc : q = m.1 := of_decide_eq_true hc
      obtain ⟨m', hm', hq2⟩ := List.mem_flatMap.mp hq
      obtain ⟨e, he, rfl⟩ := List.mem_map.mp hq2
      exact hw.nc m (mem_at hi) m' hm' e he hc.symm
    apply ds_if (b := false)
    · refine DT.cast ?_ hg
      repeat' walk_at "s"
    · intro hb
      cases hb
    · intro _
      apply ds_nx
      exact ⟨_, _, rfl⟩
  · rintro s ⟨a, b, rfl⟩
    apply ds_ret
    · repeat' walk_at "s"
    · rfl
theorem cl_table_fault {T : Tab} (h : DA tr sl [dTab T]) (hw : WF T) : DV (tCall sp_table_fault [] E tr) sl .non := dv_call0 (enc := fun x : Tab => [dTab x]) T h hw
local macro_rules | `(tactic| walk_at "s") => `(tactic| with_reducible apply cl_table_fault)
end
end Wa
set_option maxHeartbeats 4000000
namespace Wa
open PySem PySem.Spec PyProof.Rows L2
local macro_rules | `(tactic| walk_at "s") => `(tactic| first
  | with_reducible exact dv_int | with_reducible exact dv_bl | with_reducible exact dv_str | with_reducible exact dv_non
  | ((with_reducible apply dv_var); first | rfl | (show _ = _; assumption))
  | with_reducible apply dv_op
  | with_reducible apply da_cons | with_reducible exact da_nil
  | with_reducible apply dv_tup2 | with_reducible apply dv_tup1 | with_reducible apply dv_tup3 | with_reducible exact dv_tup0
  | with_reducible apply dv_isN | with_reducible apply dv_notN
  | with_reducible apply dt_test | with_reducible apply dt_B | with_reducible exact dt_yes
  | with_reducible apply (dt_and ?_ fun _ => ?_) | with_reducible apply (dt_or ?_ fun _ => ?_) | with_reducible apply dt_not
  | with_reducible apply (dv_and ?_ fun _ => ?_) | with_reducible apply dv_not
  | with_reducible apply (dv_chain (g := D.non) ?_ ?_ ?_ (fun _ => ?_) (fun _ => ?_))
  | with_reducible exact ov_I0 | with_reducible exact ov_B0 | ((with_reducible apply ov_I); first | (show 0 < _; omega) | (unfold CDiv; omega) | (unfold CMul; omega) | (unfold CDivN; omega) | skip)
  | with_reducible exact ov_eqI | with_reducible exact ov_neI | with_reducible exact ov_eqB | with_reducible exact ov_eqS | with_reducible exact ov_notB
  | with_reducible exact ov_isN | with_reducible exact ov_notN
  | with_reducible apply dv_neg
  | with_reducible apply dv_isInt | with_reducible apply dv_isBool
  | with_reducible apply dv_cb
  | (with_reducible exact cv_tupleK) | (with_reducible exact cv_tupF) | (with_reducible exact cv_intK) | (with_reducible exact cv_sum) | (with_reducible exact cv_all) | (with_reducible exact cv_any) | ((with_reducible apply cv_lenK); rfl)
  | (exact ov_ixT rfl rfl) | (exact ov_ixL rfl)
  | with_reducible apply dv_din | with_reducible apply dv_dnotin
  | (show D.items _ = some _; rfl) | (show D.seq _ = some _; rfl) | ((show WF _); assumption))
local macro_rules | `(tactic| walk_at "s") => `(tactic| first | with_reducible apply cl_power_in | with_reducible apply cl_size_in | with_reducible apply cl_weight_of | with_reducible apply cl_rows_in | with_reducible apply cl_web_in | with_reducible apply cl_movers_in | with_reducible apply cl_moved_in | with_reducible apply cl_still_in | with_reducible apply cl_moved_by | with_reducible apply cl_movers_on | with_reducible apply cl_struck_by | with_reducible apply cl_subsets_of | with_reducible apply cl_cut_in | with_reducible apply cl_log_in | with_reducible apply cl_row_power | with_reducible apply cl_power_in_rows | with_reducible apply cl_alike_in | with_reducible apply cl_is_undivided | with_reducible apply cl_is_whole_number | with_reducible apply cl_is_count | with_reducible apply cl_is_small_prime | with_reducible apply cl_is_pair | with_reducible apply cl_are_rising | with_reducible apply cl_are_primes_among | with_reducible apply cl_prime_fault | with_reducible apply cl_move_fault | with_reducible apply cl_row_fault | with_reducible apply cl_table_fault )
theorem wf_cut {T : Tab} (h : WF T) (s : List Int) : WF (cut T s) := by
  have row : ∀ m ∈ cutRows T.2 s, ∃ m' ∈ T.2, m = (m'.1, m'.2.filter fun e => decide (e.1 ∈ s)) ∧ m'.1 ∈ s ∧ m.2 ≠ [] := fun m hm => by
    obtain ⟨h1, h2⟩ := List.mem_filter.mp hm
    obtain ⟨m', hm', rfl⟩ := List.mem_map.mp h1
    have : m'.1 ∈ s ∧ ¬ (m'.2.filter fun e => decide (e.1 ∈ s)) = [] := by simpa using h2
    exact ⟨m', hm', rfl, this.1, this.2⟩
  have sub : ((cutRows T.2 s).map (·.1)).Sublist (T.2.map (·.1)) := by
    have h1 : (cutRows T.2 s).Sublist (T.2.map fun m => (m.1, m.2.filter fun e => decide (e.1 ∈ s))) := List.filter_sublist
    have h2 := h1.map (·.1)
    rw [List.map_map] at h2
    exact h2
  refine ⟨h.ps.sublist List.filter_sublist, fun p hp => h.pin p (List.mem_filter.mp hp).1, Nat.le_trans (List.length_filter_le _ _) h.pl, h.ms.sublist sub, ?_, fun m hm => ?_, fun m hm m' hm' e he => ?_⟩
  · have := sub.length_le
    rw [List.length_map, List.length_map] at this
    exact Nat.le_trans this h.ml
  · obtain ⟨m', hm', rfl, h1, h2⟩ := row m hm
    have w := h.mv m' hm'
    refine ⟨List.mem_filter.mpr ⟨w.mi, decide_eq_true h1⟩, h2, w.so.sublist (List.filter_sublist.map _), Nat.le_trans (List.length_filter_le _ _) w.ln, fun e he => ?_⟩
    obtain ⟨e1, e2⟩ := List.mem_filter.mp he
    obtain ⟨a, b⟩ := w.ed e e1
    exact ⟨List.mem_filter.mpr ⟨a, e2⟩, b⟩
  · obtain ⟨m1, hm1, rfl, _, _⟩ := row m hm
    obtain ⟨m2, hm2, rfl, _, _⟩ := row m' hm'
    exact h.nc m1 hm1 m2 hm2 e (List.mem_filter.mp he).1
theorem cv_cast {r : List V → Hp → VK → Prop} {ds : List D} {f g : D} (h : CV r ds f) (e : f = g) : CV r ds g := e ▸ h
/-- a def with defaults -/
abbrev FunW (K : PySem.W.Frag) (x : Str) (st : Stmt) (dvs : List V) (f : Addr) (fd : FuncData) : Prop := FunD K x x (defArgs st) (defBody st) (defScope st) dvs [] f fd
section
variable {P : Program} {w : World} {K : PySem.W.Frag} {mg : Str → Option Value} {base : Heap} {f : Addr} {fd : FuncData} {tv : Value} {sl : List Sl} {tr : TA} {E : XK}
theorem funW_ok {x : Str} {st : Stmt} {dvs : List V} {N ps : List Str} {k : Nat} {sp : Sp} (F : FunW K x st dvs f fd) (S : FnScope N ps (defScope st)) (len : ∀ vs H Q E, sp vs H Q E → vs.length = ps.length)
    (hbody : ∀ (cdv : Value) (A : Around) (outer : List Env) (s : Shared) (H : Hp) (vs : List V) (Q : VK) (E : XK), Room k (A.deeper (envOfC x (defScope st) s.heap.objs.size f cdv)) → sp vs H Q E →
      ∃ t, PSs (cxOf CX0 P w K mg base N x (defScope st) f cdv A outer s H E).nox (defBody st) t ∧ t { nx := fun _ H' => Q .non H', rt := Q } (start N vs) H) : FnOk P w K mg base CX0 (k + 1) f fd ps sp :=
  FunD.ok F S len fun cdv A outer s H vs Q E hr hsp => by
    obtain ⟨t, h, q⟩ := hbody cdv A outer s H vs Q E hr hsp
    exact ⟨t, h.nox, q⟩

abbrev s_want : Stmt := topS 42
abbrev N_want : List Str := ["is_fit", "name", "at"]
theorem sc_want : FnScope N_want ["is_fit", "name", "at"] (defScope s_want) := ⟨rfl, rfl, rfl, by decide +kernel, rfl, by decide +kernel, by decide +kernel⟩
def sp_want : Sp := spF (fun x : Str × Int => [.bl true, .str x.1, .int x.2]) (fun _ => True) (fun _ => .non)
theorem ok_want  (F : FunW K "want" s_want [(V.int (-1))] f fd) : FnOk P w K mg base CX0 1 f fd ["is_fit", "name", "at"] sp_want := by
  have nd := sc_want.nd
  refine funW_ok (k := 0) F sc_want (fun vs H Q E h => spF_len (n:=3) (fun _ => rfl) h) (fun cdv A outer s H vs Q E hr h => ?_)
  refine ⟨_, (pss_one (ps_if (pt_not (pt_val (pv 0))) (pss_one ps_never) pss_nil)), body_ok (N := N_want) h fun x hp => ?_⟩
  show DS _ [.d (.bl true), .d (.str x.1), .d (.int x.2)] _
  apply ds_if (b := !true)
  · repeat' walk_at "s"
  · intro hb
    cases hb
  · intro _
    apply ds_nx
    exact rfl
theorem cl_want2 {n : Str} {b : Bool} (h : DA tr sl [.bl b, .str n]) (hb : b = true) : DV (tCall sp_want [V.int (-1)] E tr) sl .non := dv_call (enc := fun x : Str × Int => [.bl true, .str x.1, .int x.2]) (ed := [.int (-1)]) (n, -1) (hb ▸ h) rfl (fun _ => .cons (.int _) .nil) trivial
local macro_rules | `(tactic| walk_at "s") => `(tactic| with_reducible apply cl_want2)

abbrev s_want_table : Stmt := topS 43
abbrev N_want_table : List Str := ["value", "name"]
theorem sc_want_table : FnScope N_want_table ["value", "name"] (defScope s_want_table) := ⟨rfl, rfl, rfl, by decide +kernel, rfl, by decide +kernel, by decide +kernel⟩
def sp_want_table : Sp := spF (fun x : Tab × Str => [dTab x.1, .str x.2]) (fun x => WF x.1) (fun _ => .non)
theorem ok_want_table (D_want2 : Def P w K mg base "want" ["is_fit", "name", "at"] [(V.int (-1))] 1 sp_want) (D_table_fault : Def P w K mg base "table_fault" ["value"] [] 4 sp_table_fault) (F : FunW K "want_table" s_want_table [(V.str "table")] f fd) : FnOk P w K mg base CX0 5 f fd ["value", "name"] sp_want_table := by
  have nd := sc_want_table.nd
  refine funW_ok (k := 4) F sc_want_table (fun vs H Q E h => spF_len (n:=2) (fun _ => rfl) h) (fun cdv A outer s H vs Q E hr h => ?_)
  refine ⟨_, (pss_one (ps_expr (pe_def D_want2 (hr.mono (by decide)) (by rfl) (pa_cons (pe_cmpR op_isN (pe_def D_table_fault (hr.mono (by decide)) (by rfl) (pa_cons (pv 0) pa_nil)) pe_non (nomark _)) (pa_cons (pv 1) pa_nil))))), body_ok (N := N_want_table) h fun x hp => ?_⟩
  obtain ⟨T, n⟩ := x
  have hw : WF T := hp
  show DS _ [.d (dTab T), .d (.str n)] _
  apply ds_drop
  · repeat' walk_at "s"
    rfl
  · exact rfl
theorem cl_want_table1 {T : Tab} (h : DA tr sl [dTab T]) (hw : WF T) : DV (tCall sp_want_table [V.str "table"] E tr) sl .non := dv_call (enc := fun x : Tab × Str => [dTab x.1, .str x.2]) (ed := [.str "table"]) (T, "table") h rfl (fun _ => .cons (.str _) .nil) hw
local macro_rules | `(tactic| walk_at "s") => `(tactic| with_reducible apply cl_want_table1)
theorem cl_want_table2 {T : Tab} {n : Str} (h : DA tr sl [dTab T, .str n]) (hw : WF T) : DV (tCall sp_want_table [] E tr) sl .non := dv_call0 (enc := fun x : Tab × Str => [dTab x.1, .str x.2]) (T, n) h hw
local macro_rules | `(tactic| walk_at "s") => `(tactic| with_reducible apply cl_want_table2)

abbrev s_want_primes : Stmt := topS 44
abbrev N_want_primes : List Str := ["table", "value", "name"]
theorem sc_want_primes : FnScope N_want_primes ["table", "value", "name"] (defScope s_want_primes) := ⟨rfl, rfl, rfl, by decide +kernel, rfl, by decide +kernel, by decide +kernel⟩
def sp_want_primes : Sp := spF (fun x : Tab × D × List Int × Str => [dTab x.1, x.2.1, .str x.2.2.2]) (fun x => Among (dFI x.1.1) x.2.1 x.1.1 x.2.2.1) (fun _ => .non)
theorem ok_want_primes (D_want2 : Def P w K mg base "want" ["is_fit", "name", "at"] [(V.int (-1))] 1 sp_want) (D_are_primes_among : Def P w K mg base "are_primes_among" ["primes", "value"] [] 2 sp_are_primes_among) (F : FunW K "want_primes" s_want_primes [(V.str "primes")] f fd) : FnOk P w K mg base CX0 3 f fd ["table", "value", "name"] sp_want_primes := by
  have nd := sc_want_primes.nd
  refine funW_ok (k := 2) F sc_want_primes (fun vs H Q E h => spF_len (n:=3) (fun _ => rfl) h) (fun cdv A outer s H vs Q E hr h => ?_)
  refine ⟨_, (pss_one (ps_expr (pe_def D_want2 (hr.mono (by decide)) (by rfl) (pa_cons (pe_def D_are_primes_among (hr.mono (by decide)) (by rfl) (pa_cons (pe_ix (ix_tupK K) (pv 0) pe_int (fun _ _ => rfl)) (pa_cons (pv 1) pa_nil))) (pa_cons (pv 2) pa_nil))))), body_ok (N := N_want_primes) h fun x hp => ?_⟩
  obtain ⟨T, d, s, n⟩ := x
  have hp : Among (dFI T.1) d T.1 s := hp
  show DS _ [.d (dTab T), .d d, .d (.str n)] _
  apply ds_drop
  · apply cl_want2 (b := true) (n := n)
    · apply da_cons
      · apply cl_are_primes_among (d := dFI T.1) (e := d) (ns := T.1) (ms := s)
        · repeat' walk_at "s"
        · exact hp
      · repeat' walk_at "s"
    · rfl
  · exact rfl
theorem cl_want_primes2 {T : Tab} {d : D} {s : List Int} (h : DA tr sl [dTab T, d]) (hp : Among (dFI T.1) d T.1 s) : DV (tCall sp_want_primes [V.str "primes"] E tr) sl .non := dv_call (enc := fun x : Tab × D × List Int × Str => [dTab x.1, x.2.1, .str x.2.2.2]) (ed := [.str "primes"]) (T, d, s, "primes") h rfl (fun _ => .cons (.str _) .nil) hp
local macro_rules | `(tactic| walk_at "s") => `(tactic| with_reducible apply cl_want_primes2)

abbrev s_want_both : Stmt := topS 46
abbrev N_want_both : List Str := ["table", "other"]
theorem sc_want_both : FnScope N_want_both ["table", "other"] (defScope s_want_both) := ⟨rfl, rfl, rfl, by decide +kernel, rfl, by decide +kernel, by decide +kernel⟩
def sp_want_both : Sp := spF (fun x : Tab × Tab => [dTab x.1, dTab x.2]) (fun x => WF x.1 ∧ WF x.2) (fun _ => .non)
theorem ok_want_both (D_want_table1 : Def P w K mg base "want_table" ["value", "name"] [(V.str "table")] 5 sp_want_table) (D_want_table2 : Def P w K mg base "want_table" ["value", "name"] [] 5 sp_want_table) (F : Fun K "want_both" "want_both" s_want_both f fd) : FnOk P w K mg base CX0 6 f fd ["table", "other"] sp_want_both := by
  have nd := sc_want_both.nd
  refine F.ok (k := 5) sc_want_both (fun vs H Q E h => spF_len (n:=2) (fun _ => rfl) h) (fun cdv A outer s H vs Q E hr h => ?_)
  refine ⟨_, (pss_cons (ps_expr (pe_def D_want_table1 (hr.mono (by decide)) (by rfl) (pa_cons (pv 0) pa_nil)))
      (pss_one (ps_expr (pe_def D_want_table2 (hr.mono (by decide)) (by rfl) (pa_cons (pv 1) (pa_cons pe_str pa_nil)))))), body_ok (N := N_want_both) h fun x hp => ?_⟩
  obtain ⟨T, R⟩ := x
  obtain ⟨hw, hv⟩ := hp
  dsimp only at hw hv
  show DS _ [.d (dTab T), .d (dTab R)] _
  apply ds_seq
  apply ds_drop
  · repeat' walk_at "s"
  apply ds_drop
  · repeat' walk_at "s"
  · exact rfl
theorem cl_want_both {T R : Tab} (h : DA tr sl [dTab T, dTab R]) (hp : WF T ∧ WF R) : DV (tCall sp_want_both [] E tr) sl .non := dv_call0 (enc := fun x : Tab × Tab => [dTab x.1, dTab x.2]) (T, R) h hp
local macro_rules | `(tactic| walk_at "s") => `(tactic| with_reducible apply cl_want_both)

abbrev s_are_alike : Stmt := topS 48
abbrev N_are_alike : List Str := ["table", "other"]
theorem sc_are_alike : FnScope N_are_alike ["table", "other"] (defScope s_are_alike) := ⟨rfl, rfl, rfl, by decide +kernel, rfl, by decide +kernel, by decide +kernel⟩
def sp_are_alike : Sp := spF (fun x : Tab × Tab => [dTab x.1, dTab x.2]) (fun x => WF x.1 ∧ WF x.2) (fun x => .bl (aliM x.1 x.2))
theorem ok_are_alike (D_want_both : Def P w K mg base "want_both" ["table", "other"] [] 6 sp_want_both) (D_alike_in : Def P w K mg base "alike_in" ["table", "other"] [] 4 sp_alike_in) (F : Fun K "are_alike" "are_alike" s_are_alike f fd) : FnOk P w K mg base CX0 7 f fd ["table", "other"] sp_are_alike := by
  have nd := sc_are_alike.nd
  refine F.ok (k := 6) sc_are_alike (fun vs H Q E h => spF_len (n:=2) (fun _ => rfl) h) (fun cdv A outer s H vs Q E hr h => ?_)
  refine ⟨_, (pss_cons (ps_expr (pe_def D_want_both (hr.mono (by decide)) (by rfl) (pa_cons (pv 0) (pa_cons (pv 1) pa_nil))))
      (pss_one (ps_ret (pe_def D_alike_in (hr.mono (by decide)) (by rfl) (pa_cons (pv 0) (pa_cons (pv 1) pa_nil)))))), body_ok (N := N_are_alike) h fun x hp => ?_⟩
  obtain ⟨T, R⟩ := x
  have hq : WF T ∧ WF R := hp
  show DS _ [.d (dTab T), .d (dTab R)] _
  apply ds_seq
  apply ds_drop
  · repeat' walk_at "s"
    exact hq
  apply ds_ret
  · repeat' walk_at "s"
    exact hq
  · rfl
theorem cl_are_alike {T R : Tab} (h : DA tr sl [dTab T, dTab R]) (hp : WF T ∧ WF R) : DV (tCall sp_are_alike [] E tr) sl (.bl (aliM T R)) := dv_call0 (enc := fun x : Tab × Tab => [dTab x.1, dTab x.2]) (T, R) h hp
local macro_rules | `(tactic| walk_at "s") => `(tactic| with_reducible apply cl_are_alike)

abbrev s_moved_out : Stmt := topS 50
abbrev N_moved_out : List Str := ["table", "primes", "gone", "mover", "late", "prime"]
theorem sc_moved_out : FnScope N_moved_out ["table", "primes"] (defScope s_moved_out) := ⟨rfl, rfl, rfl, by decide +kernel, rfl, by decide +kernel, by decide +kernel⟩
def outM (T : Tab) (s : List Int) : List Int := T.1.filter fun p => (web T).any (fun e => decide (e.1 ∈ s) && decide (e.2 = p)) && !decide (p ∈ s)
def sp_moved_out : Sp := spF (fun x : Tab × D × List Int => [dTab x.1, x.2.1]) (fun x => WF x.1 ∧ x.2.1.items = some (x.2.2.map D.int)) (fun x => dTI (outM x.1 x.2.2))
theorem ok_moved_out (D_web_in : Def P w K mg base "web_in" ["table"] [] 1 sp_web_in) (B : Blt mg tv) (F : Fun K "moved_out" "moved_out" s_moved_out f fd) : FnOk P w K mg base CX0 2 f fd ["table", "primes"] sp_moved_out := by
  have nd := sc_moved_out.nd
  refine F.ok (k := 1) sc_moved_out (fun vs H Q E h => spF_len (n:=2) (fun _ => rfl) h) (fun cdv A outer s H vs Q E hr h => ?_)
  refine ⟨_, (pss_cons (ps_set (i := 2) nd rfl (Or.inr rfl) (pe_callTy (call_dictPK K rfl) (by rfl) B.dict_ (by decide +kernel) (pa_cons (pe_lc (own := [("mover", 3), ("late", 4)]) rfl nd (pi_tupK K (pe_def D_web_in (hr.mono (by decide)) (by rfl) (pa_cons (pv 0) pa_nil))) (blkOk_by (N := N_moved_out) (sc := (defScope s_moved_out)) (by decide +kernel)) (fun _ _ _ _ _ => (pg_tupK (n := 2) K rfl (pgs_cons (pg_name (i := 3) nd rfl (Or.inl rfl)) (pgs_cons (pg_name (i := 4) nd rfl (Or.inl rfl)) pgs_nil)))) (fun _ _ _ _ _ => pts_one (pt_cmpR (op_inK K) (pv 3) (pv 1) (rfl))) (fun _ _ _ _ _ => (pe_tup (pa_cons (pv 4) (pa_cons pe_bl pa_nil))))) pa_nil)))
      (pss_one (ps_ret (pe_callTy (call_tupleK K) (by rfl) B.tuple_ (by decide +kernel) (pa_cons (pe_lc (own := [("prime", 5)]) rfl nd (pi_tupK K (pe_ix (ix_tupK K) (pv 0) pe_int (fun _ _ => rfl))) (blkOk_by (N := N_moved_out) (sc := (defScope s_moved_out)) (by decide +kernel)) (fun _ _ _ _ _ => (pg_name (i := 5) nd rfl (Or.inl rfl))) (fun _ _ _ _ _ => pts_one (PW.pt (pw_and (pt_cmp (pc_din (hu_of hr) (pv 5) (pv 2)) rfl) (pw_and1 (pt_cmpR (op_notInK K) (pv 5) (pv 1) (rfl)))))) (fun _ _ _ _ _ => (pv 5))) pa_nil))))), body_ok (N := N_moved_out) h fun x hp => ?_⟩
  obtain ⟨T, d, s⟩ := x
  obtain ⟨hw, hs⟩ := hp
  dsimp only at hw hs
  have hq := items_seq hs
  have h1 := hw.pl
  have h2 := web_len hw
  show DS _ [.d (dTab T), .d d, .un, .un, .un, .un] _
  apply ds_seq
  apply ds_set (d := .dic (mergeD [] ((((web T).filter fun e => decide (e.1 ∈ s)).map (·.2)).map fun k => (k, .bl true))))
  · apply dv_cb
    · apply da_cons
      · refine dl_lcE (web T) dPr (fun e => [(3, .int e.1), (4, .int e.2)]) (fun e => decide (e.1 ∈ s)) (·.2) (fun k => .tup [.int k, .bl true]) (di_tup (d := dWeb (web T)) ?_ rfl) (fun _ _ => dg_tup rfl (dgs_cons (dgs_cons dgs_nil))) (fun _ _ => rfl) (fun e _ => ?_) (fun p _ _ => ?_) (by omega)
        · repeat' walk_at "s"
        · repeat' walk_at "s"
          exact ov_in hq
        · repeat' walk_at "s"
      · exact da_nil
    · exact (cm_dictPK (xs := ((web T).filter fun e => decide (e.1 ∈ s)).map (·.2)) _ _ _ fun _ => rfl).v
  apply ds_ret
  · apply dv_cb
    · apply da_cons
      · refine dl_lcE T.1 D.int (fun p => [(5, .int p)]) (fun p => (web T).any (fun e => decide (e.1 ∈ s) && decide (e.2 = p)) && !decide (p ∈ s)) id D.int (di_tup (d := dFI T.1) ?_ rfl) (fun _ _ => dg_name) (fun _ _ => rfl) (fun p _ => ?_) (fun p _ _ => ?_) (by omega)
        · repeat' walk_at "s"
        · apply dt_and
          · apply DT.cast
            · repeat' walk_at "s"
            · rw [merge_any0, List.any_map, List.any_map, List.any_filter] <;> rfl
          · intro _
            repeat' walk_at "s"
            exact ov_notIn hq
        · repeat' walk_at "s"
      · exact da_nil
    · exact cv_tupleK
  · rw [List.map_id] <;> rfl
theorem cl_moved_out {T : Tab} {d : D} {s : List Int} (h : DA tr sl [dTab T, d]) (hw : WF T) (hs : d.items = some (s.map D.int)) : DV (tCall sp_moved_out [] E tr) sl (dTI (outM T s)) := dv_call0 (enc := fun x : Tab × D × List Int => [dTab x.1, x.2.1]) (T, d, s) h ⟨hw, hs⟩
local macro_rules | `(tactic| walk_at "s") => `(tactic| with_reducible apply cl_moved_out)

abbrev s_parts_in : Stmt := topS 52
abbrev N_parts_in : List Str := ["table", "primes"]
theorem sc_parts_in : FnScope N_parts_in ["table", "primes"] (defScope s_parts_in) := ⟨rfl, rfl, rfl, by decide +kernel, rfl, by decide +kernel, by decide +kernel⟩
def sp_parts_in : Sp := spF (fun x : Tab × D × List Int => [dTab x.1, x.2.1]) (fun x => WF x.1 ∧ x.2.1.items = some (x.2.2.map D.int)) (fun x => .int (prodI (outM x.1 x.2.2)))
theorem out_ps {T : Tab} (h : WF T) {s : List Int} : ∀ n ∈ outM T s, 2 ≤ n ∧ n ≤ 31 := fun n hn => ps_of h (List.mem_filter.mp hn).1
theorem ok_parts_in (D_size_in : Def P w K mg base "size_in" ["primes"] [] 1 sp_size_in) (D_moved_out : Def P w K mg base "moved_out" ["table", "primes"] [] 2 sp_moved_out) (F : Fun K "parts_in" "parts_in" s_parts_in f fd) : FnOk P w K mg base CX0 3 f fd ["table", "primes"] sp_parts_in := by
  have nd := sc_parts_in.nd
  refine F.ok (k := 2) sc_parts_in (fun vs H Q E h => spF_len (n:=2) (fun _ => rfl) h) (fun cdv A outer s H vs Q E hr h => ?_)
  refine ⟨_, (pss_one (ps_ret (pe_def D_size_in (hr.mono (by decide)) (by rfl) (pa_cons (pe_def D_moved_out (hr.mono (by decide)) (by rfl) (pa_cons (pv 0) (pa_cons (pv 1) pa_nil))) pa_nil)))), body_ok (N := N_parts_in) h fun x hp => ?_⟩
  obtain ⟨T, d, s⟩ := x
  obtain ⟨hw, hs⟩ := hp
  dsimp only at hw hs
  show DS _ [.d (dTab T), .d d] _
  apply ds_ret
  · apply cl_size_in (d := dTI (outM T s)) (ns := outM T s)
    · apply da_cons
      · apply cl_moved_out (d := d) (s := s)
        · repeat' walk_at "s"
        · exact hw
        · exact hs
      · exact da_nil
    · rfl
    · exact fun n hn => by have := out_ps hw n hn; omega
  · rfl
theorem cl_parts_in {T : Tab} {d : D} {s : List Int} (h : DA tr sl [dTab T, d]) (hw : WF T) (hs : d.items = some (s.map D.int)) : DV (tCall sp_parts_in [] E tr) sl (.int (prodI (outM T s))) := dv_call0 (enc := fun x : Tab × D × List Int => [dTab x.1, x.2.1]) (T, d, s) h ⟨hw, hs⟩
local macro_rules | `(tactic| walk_at "s") => `(tactic| with_reducible apply cl_parts_in)

abbrev s_part_count : Stmt := topS 54
abbrev N_part_count : List Str := ["table", "primes"]
theorem sc_part_count : FnScope N_part_count ["table", "primes"] (defScope s_part_count) := ⟨rfl, rfl, rfl, by decide +kernel, rfl, by decide +kernel, by decide +kernel⟩
def sp_part_count : Sp := spF (fun x : Tab × D × List Int => [dTab x.1, x.2.1]) (fun x => WF x.1 ∧ Among (dFI x.1.1) x.2.1 x.1.1 x.2.2) (fun x => .int (prodI (outM x.1 x.2.2)))
theorem ok_part_count (D_want_table1 : Def P w K mg base "want_table" ["value", "name"] [(V.str "table")] 5 sp_want_table) (D_want_primes2 : Def P w K mg base "want_primes" ["table", "value", "name"] [(V.str "primes")] 3 sp_want_primes) (D_parts_in : Def P w K mg base "parts_in" ["table", "primes"] [] 3 sp_parts_in) (F : Fun K "part_count" "part_count" s_part_count f fd) : FnOk P w K mg base CX0 6 f fd ["table", "primes"] sp_part_count := by
  have nd := sc_part_count.nd
  refine F.ok (k := 5) sc_part_count (fun vs H Q E h => spF_len (n:=2) (fun _ => rfl) h) (fun cdv A outer s H vs Q E hr h => ?_)
  refine ⟨_, (pss_cons (ps_expr (pe_def D_want_table1 (hr.mono (by decide)) (by rfl) (pa_cons (pv 0) pa_nil)))
      (pss_cons (ps_expr (pe_def D_want_primes2 (hr.mono (by decide)) (by rfl) (pa_cons (pv 0) (pa_cons (pv 1) pa_nil))))
      (pss_one (ps_ret (pe_def D_parts_in (hr.mono (by decide)) (by rfl) (pa_cons (pv 0) (pa_cons (pv 1) pa_nil))))))), body_ok (N := N_part_count) h fun x hp => ?_⟩
  obtain ⟨T, d, s⟩ := x
  obtain ⟨hw, hs⟩ := hp
  dsimp only at hw hs
  show DS _ [.d (dTab T), .d d] _
  apply ds_seq
  apply ds_drop
  · repeat' walk_at "s"
  apply ds_seq
  apply ds_drop
  · apply cl_want_primes2 (s := s)
    · repeat' walk_at "s"
    · exact hs
  apply ds_ret
  · apply cl_parts_in (d := d) (s := s)
    · repeat' walk_at "s"
    · exact hw
    · exact hs.he
  · rfl
theorem cl_part_count {T : Tab} {d : D} {s : List Int} (h : DA tr sl [dTab T, d]) (hw : WF T) (hs : Among (dFI T.1) d T.1 s) : DV (tCall sp_part_count [] E tr) sl (.int (prodI (outM T s))) := dv_call0 (enc := fun x : Tab × D × List Int => [dTab x.1, x.2.1]) (T, d, s) h ⟨hw, hs⟩
local macro_rules | `(tactic| walk_at "s") => `(tactic| with_reducible apply cl_part_count)

abbrev s_is_like_part : Stmt := topS 56
abbrev N_is_like_part : List Str := ["table", "other", "prime"]
theorem sc_is_like_part : FnScope N_is_like_part ["table", "other"] (defScope s_is_like_part) := ⟨rfl, rfl, rfl, by decide +kernel, rfl, by decide +kernel, by decide +kernel⟩
def likeM (T R : Tab) : Bool := (R.1.all fun p => decide (p ∈ T.1)) && aliM (cut T R.1) R
def sp_is_like_part : Sp := spF (fun x : Tab × Tab => [dTab x.1, dTab x.2]) (fun x => WF x.1 ∧ WF x.2) (fun x => .bl (likeM x.1 x.2))
theorem ok_is_like_part (D_alike_in : Def P w K mg base "alike_in" ["table", "other"] [] 4 sp_alike_in) (D_cut_in : Def P w K mg base "cut_in" ["table", "primes"] [] 1 sp_cut_in) (B : Blt mg tv) (F : Fun K "is_like_part" "is_like_part" s_is_like_part f fd) : FnOk P w K mg base CX0 5 f fd ["table", "other"] sp_is_like_part := by
  have nd := sc_is_like_part.nd
  refine F.ok (k := 4) sc_is_like_part (fun vs H Q E h => spF_len (n:=2) (fun _ => rfl) h) (fun cdv A outer s H vs Q E hr h => ?_)
  refine ⟨_, (pss_one (ps_ret (pe_and (pe_callB (cr_allK K rfl) (by rfl) B.all_ (by decide +kernel) (pa_cons (pe_lc (own := [("prime", 2)]) rfl nd (pi_tupK K (pe_ix (ix_tupK K) (pv 1) pe_int (fun _ _ => rfl))) (blkOk_by (N := N_is_like_part) (sc := (defScope s_is_like_part)) (by decide +kernel)) (fun _ _ _ _ _ => (pg_name (i := 2) nd rfl (Or.inl rfl))) (fun _ _ _ _ _ => pts_nil) (fun _ _ _ _ _ => (pe_cmpR (op_inK K) (pv 2) (pe_ix (ix_tupK K) (pv 0) pe_int (fun _ _ => rfl)) (rfl)))) pa_nil)) (pe_one (pe_def D_alike_in (hr.mono (by decide)) (by rfl) (pa_cons (pe_def D_cut_in (hr.mono (by decide)) (by rfl) (pa_cons (pv 0) (pa_cons (pe_ix (ix_tupK K) (pv 1) pe_int (fun _ _ => rfl)) pa_nil))) (pa_cons (pv 1) pa_nil))))))), body_ok (N := N_is_like_part) h fun x hp => ?_⟩
  obtain ⟨T, R⟩ := x
  obtain ⟨hw, hv⟩ := hp
  dsimp only at hw hv
  have := hv.pl
  show DS _ [.d (dTab T), .d (dTab R), .un] _
  apply ds_ret (d := .bl (likeM T R))
  · apply dv_and
    · apply dv_cb
      · apply da_cons
        · refine dl_lcE0 R.1 D.int (fun p => [(2, .int p)]) (fun p => decide (p ∈ T.1)) D.bl (di_tup (d := dFI R.1) ?_ rfl) (fun _ _ => dg_name) (fun _ _ => rfl) (fun p _ => ?_) (by omega)
          · repeat' walk_at "s"
          · repeat' walk_at "s"
            exact ov_in rfl
        · exact da_nil
      · refine cv_cast cv_all ?_
        rw [List.all_map] <;> rfl
    · intro _
      apply cl_alike_in (T := cut T R.1) (R := R)
      · apply da_cons
        · apply cl_cut_in (d := dFI R.1) (s := R.1)
          · repeat' walk_at "s"
          · exact hw
          · rfl
        · repeat' walk_at "s"
      · exact ⟨wf_cut hw _, hv⟩
  · rfl
theorem cl_is_like_part {T R : Tab} (h : DA tr sl [dTab T, dTab R]) (hp : WF T ∧ WF R) : DV (tCall sp_is_like_part [] E tr) sl (.bl (likeM T R)) := dv_call0 (enc := fun x : Tab × Tab => [dTab x.1, dTab x.2]) (T, R) h hp
local macro_rules | `(tactic| walk_at "s") => `(tactic| with_reducible apply cl_is_like_part)

abbrev s_alike_parts_in : Stmt := topS 57
abbrev N_alike_parts_in : List Str := ["table", "other"]
theorem sc_alike_parts_in : FnScope N_alike_parts_in ["table", "other"] (defScope s_alike_parts_in) := ⟨rfl, rfl, rfl, by decide +kernel, rfl, by decide +kernel, by decide +kernel⟩
def apiM (T R : Tab) : Int := if likeM T R = true then prodI (outM T R.1) else 0
def sp_alike_parts_in : Sp := spF (fun x : Tab × Tab => [dTab x.1, dTab x.2]) (fun x => WF x.1 ∧ WF x.2) (fun x => .int (apiM x.1 x.2))
theorem ok_alike_parts_in (D_is_like_part : Def P w K mg base "is_like_part" ["table", "other"] [] 5 sp_is_like_part) (D_parts_in : Def P w K mg base "parts_in" ["table", "primes"] [] 3 sp_parts_in) (F : Fun K "alike_parts_in" "alike_parts_in" s_alike_parts_in f fd) : FnOk P w K mg base CX0 6 f fd ["table", "other"] sp_alike_parts_in := by
  have nd := sc_alike_parts_in.nd
  refine F.ok (k := 5) sc_alike_parts_in (fun vs H Q E h => spF_len (n:=2) (fun _ => rfl) h) (fun cdv A outer s H vs Q E hr h => ?_)
  refine ⟨_, (pss_one (ps_ret (pe_ifExp (pt_val (pe_def D_is_like_part (hr.mono (by decide)) (by rfl) (pa_cons (pv 0) (pa_cons (pv 1) pa_nil)))) (pe_def D_parts_in (hr.mono (by decide)) (by rfl) (pa_cons (pv 0) (pa_cons (pe_ix (ix_tupK K) (pv 1) pe_int (fun _ _ => rfl)) pa_nil))) pe_int))), body_ok (N := N_alike_parts_in) h fun x hp => ?_⟩
  obtain ⟨T, R⟩ := x
  have hq : WF T ∧ WF R := hp
  have hw := hq.1
  show DS _ [.d (dTab T), .d (dTab R)] _
  apply ds_ret (d := .int (apiM T R))
  · apply dv_if (b := likeM T R)
    · repeat' walk_at "s"
      exact hq
    · intro hb
      unfold apiM
      rw [if_pos hb]
      apply cl_parts_in (d := dFI R.1) (s := R.1)
      · repeat' walk_at "s"
      · exact hw
      · rfl
    · intro hb
      unfold apiM
      rw [if_neg (by rw [hb]; exact Bool.false_ne_true)]
      exact dv_int
  · rfl
theorem cl_alike_parts_in {T R : Tab} (h : DA tr sl [dTab T, dTab R]) (hp : WF T ∧ WF R) : DV (tCall sp_alike_parts_in [] E tr) sl (.int (apiM T R)) := dv_call0 (enc := fun x : Tab × Tab => [dTab x.1, dTab x.2]) (T, R) h hp
local macro_rules | `(tactic| walk_at "s") => `(tactic| with_reducible apply cl_alike_parts_in)

abbrev s_parts_alike : Stmt := topS 58
abbrev N_parts_alike : List Str := ["table", "other"]
theorem sc_parts_alike : FnScope N_parts_alike ["table", "other"] (defScope s_parts_alike) := ⟨rfl, rfl, rfl, by decide +kernel, rfl, by decide +kernel, by decide +kernel⟩
def sp_parts_alike : Sp := spF (fun x : Tab × Tab => [dTab x.1, dTab x.2]) (fun x => WF x.1 ∧ WF x.2) (fun x => .int (apiM x.1 x.2))
theorem ok_parts_alike (D_want_both : Def P w K mg base "want_both" ["table", "other"] [] 6 sp_want_both) (D_alike_parts_in : Def P w K mg base "alike_parts_in" ["table", "other"] [] 6 sp_alike_parts_in) (F : Fun K "parts_alike" "parts_alike" s_parts_alike f fd) : FnOk P w K mg base CX0 7 f fd ["table", "other"] sp_parts_alike := by
  have nd := sc_parts_alike.nd
  refine F.ok (k := 6) sc_parts_alike (fun vs H Q E h => spF_len (n:=2) (fun _ => rfl) h) (fun cdv A outer s H vs Q E hr h => ?_)
  refine ⟨_, (pss_cons (ps_expr (pe_def D_want_both (hr.mono (by decide)) (by rfl) (pa_cons (pv 0) (pa_cons (pv 1) pa_nil))))
      (pss_one (ps_ret (pe_def D_alike_parts_in (hr.mono (by decide)) (by rfl) (pa_cons (pv 0) (pa_cons (pv 1) pa_nil)))))), body_ok (N := N_parts_alike) h fun x hp => ?_⟩
  obtain ⟨T, R⟩ := x
  have hq : WF T ∧ WF R := hp
  show DS _ [.d (dTab T), .d (dTab R)] _
  apply ds_seq
  apply ds_drop
  · repeat' walk_at "s"
    exact hq
  apply ds_ret
  · repeat' walk_at "s"
    exact hq
  · rfl
theorem cl_parts_alike {T R : Tab} (h : DA tr sl [dTab T, dTab R]) (hp : WF T ∧ WF R) : DV (tCall sp_parts_alike [] E tr) sl (.int (apiM T R)) := dv_call0 (enc := fun x : Tab × Tab => [dTab x.1, dTab x.2]) (T, R) h hp
local macro_rules | `(tactic| walk_at "s") => `(tactic| with_reducible apply cl_parts_alike)

abbrev s_cut_to : Stmt := topS 60
abbrev N_cut_to : List Str := ["table", "primes"]
theorem sc_cut_to : FnScope N_cut_to ["table", "primes"] (defScope s_cut_to) := ⟨rfl, rfl, rfl, by decide +kernel, rfl, by decide +kernel, by decide +kernel⟩
def sp_cut_to : Sp := spF (fun x : Tab × D × List Int => [dTab x.1, x.2.1]) (fun x => WF x.1 ∧ Among (dFI x.1.1) x.2.1 x.1.1 x.2.2) (fun x => dTab (cut x.1 x.2.2))
theorem ok_cut_to (D_want_table1 : Def P w K mg base "want_table" ["value", "name"] [(V.str "table")] 5 sp_want_table) (D_want_primes2 : Def P w K mg base "want_primes" ["table", "value", "name"] [(V.str "primes")] 3 sp_want_primes) (D_cut_in : Def P w K mg base "cut_in" ["table", "primes"] [] 1 sp_cut_in) (F : Fun K "cut_to" "cut_to" s_cut_to f fd) : FnOk P w K mg base CX0 6 f fd ["table", "primes"] sp_cut_to := by
  have nd := sc_cut_to.nd
  refine F.ok (k := 5) sc_cut_to (fun vs H Q E h => spF_len (n:=2) (fun _ => rfl) h) (fun cdv A outer s H vs Q E hr h => ?_)
  refine ⟨_, (pss_cons (ps_expr (pe_def D_want_table1 (hr.mono (by decide)) (by rfl) (pa_cons (pv 0) pa_nil)))
      (pss_cons (ps_expr (pe_def D_want_primes2 (hr.mono (by decide)) (by rfl) (pa_cons (pv 0) (pa_cons (pv 1) pa_nil))))
      (pss_one (ps_ret (pe_def D_cut_in (hr.mono (by decide)) (by rfl) (pa_cons (pv 0) (pa_cons (pv 1) pa_nil))))))), body_ok (N := N_cut_to) h fun x hp => ?_⟩
  obtain ⟨T, d, s⟩ := x
  obtain ⟨hw, hs⟩ := hp
  dsimp only at hw hs
  show DS _ [.d (dTab T), .d d] _
  apply ds_seq
  apply ds_drop
  · repeat' walk_at "s"
  apply ds_seq
  apply ds_drop
  · apply cl_want_primes2 (s := s)
    · repeat' walk_at "s"
    · exact hs
  apply ds_ret
  · apply cl_cut_in (d := d) (s := s)
    · repeat' walk_at "s"
    · exact hw
    · exact hs.he
  · rfl
theorem cl_cut_to {T : Tab} {d : D} {s : List Int} (h : DA tr sl [dTab T, d]) (hw : WF T) (hs : Among (dFI T.1) d T.1 s) : DV (tCall sp_cut_to [] E tr) sl (dTab (cut T s)) := dv_call0 (enc := fun x : Tab × D × List Int => [dTab x.1, x.2.1]) (T, d, s) h ⟨hw, hs⟩
local macro_rules | `(tactic| walk_at "s") => `(tactic| with_reducible apply cl_cut_to)

abbrev s_other_moved : Stmt := topS 62
abbrev N_other_moved : List Str := ["table", "gone", "prime"]
theorem sc_other_moved : FnScope N_other_moved ["table", "gone"] (defScope s_other_moved) := ⟨rfl, rfl, rfl, by decide +kernel, rfl, by decide +kernel, by decide +kernel⟩
def otherM (T : Tab) (g : List Int) : List Int := (moved T).filter fun p => !decide (p ∈ g)
def sp_other_moved : Sp := spF (fun x : Tab × List Int => [dTab x.1, dTI x.2]) (fun x => WF x.1) (fun x => dTI (otherM x.1 x.2))
theorem ok_other_moved (D_moved_in : Def P w K mg base "moved_in" ["table"] [] 2 sp_moved_in) (B : Blt mg tv) (F : Fun K "other_moved" "other_moved" s_other_moved f fd) : FnOk P w K mg base CX0 3 f fd ["table", "gone"] sp_other_moved := by
  have nd := sc_other_moved.nd
  refine F.ok (k := 2) sc_other_moved (fun vs H Q E h => spF_len (n:=2) (fun _ => rfl) h) (fun cdv A outer s H vs Q E hr h => ?_)
  refine ⟨_, (pss_one (ps_ret (pe_callTy (call_tupleK K) (by rfl) B.tuple_ (by decide +kernel) (pa_cons (pe_lc (own := [("prime", 2)]) rfl nd (pi_tupK K (pe_def D_moved_in (hr.mono (by decide)) (by rfl) (pa_cons (pv 0) pa_nil))) (blkOk_by (N := N_other_moved) (sc := (defScope s_other_moved)) (by decide +kernel)) (fun _ _ _ _ _ => (pg_name (i := 2) nd rfl (Or.inl rfl))) (fun _ _ _ _ _ => pts_one (pt_cmpR (op_notInK K) (pv 2) (pv 1) (rfl))) (fun _ _ _ _ _ => (pv 2))) pa_nil)))), body_ok (N := N_other_moved) h fun x hp => ?_⟩
  obtain ⟨T, g⟩ := x
  have hw : WF T := hp
  have h1 := hw.pl
  have h2 : (moved T).length ≤ 5 := Nat.le_trans (List.length_filter_le _ _) h1
  show DS _ [.d (dTab T), .d (dTI g), .un] _
  apply ds_ret
  · repeat' walk_at "s"
    · refine dl_lcE (moved T) D.int (fun e => [(2, .int e)]) (fun p => !decide (p ∈ g)) id D.int (di_tup (d := dTI (moved T)) ?_ rfl) (fun _ _ => dg_name) (fun _ _ => rfl) (fun q _ => ?_) (fun p _ _ => ?_) (by omega)
      · repeat' walk_at "s"
      · repeat' walk_at "s"
        exact ov_notIn rfl
      · repeat' walk_at "s"
    all_goals repeat' walk_at "s"
  · rw [List.map_id] <;> rfl
theorem cl_other_moved {T : Tab} {g : List Int} (h : DA tr sl [dTab T, dTI g]) (hw : WF T) : DV (tCall sp_other_moved [] E tr) sl (dTI (otherM T g)) := dv_call0 (enc := fun x : Tab × List Int => [dTab x.1, dTI x.2]) (T, g) h hw
local macro_rules | `(tactic| walk_at "s") => `(tactic| with_reducible apply cl_other_moved)
end
end Wa
set_option maxHeartbeats 4000000
namespace Wa
open PySem PySem.Spec PyProof.Rows L2
local macro_rules | `(tactic| walk_at "s") => `(tactic| first
  | with_reducible exact dv_int | with_reducible exact dv_bl | with_reducible exact dv_str | with_reducible exact dv_non
  | ((with_reducible apply dv_var); first | rfl | (show _ = _; assumption))
  | with_reducible apply dv_op
  | with_reducible apply da_cons | with_reducible exact da_nil
  | with_reducible apply dv_tup2 | with_reducible apply dv_tup1 | with_reducible apply dv_tup3 | with_reducible exact dv_tup0
  | with_reducible apply dv_isN | with_reducible apply dv_notN
  | with_reducible apply dt_test | with_reducible apply dt_B | with_reducible exact dt_yes
  | with_reducible apply (dt_and ?_ fun _ => ?_) | with_reducible apply (dt_or ?_ fun _ => ?_) | with_reducible apply dt_not
  | with_reducible apply (dv_and ?_ fun _ => ?_) | with_reducible apply dv_not
  | with_reducible apply (dv_chain (g := D.non) ?_ ?_ ?_ (fun _ => ?_) (fun _ => ?_))
  | with_reducible exact ov_I0 | with_reducible exact ov_B0 | ((with_reducible apply ov_I); first | (show 0 < _; omega) | (unfold CDiv; omega) | (unfold CMul; omega) | (unfold CDivN; omega) | skip)
  | with_reducible exact ov_eqI | with_reducible exact ov_neI | with_reducible exact ov_eqB | with_reducible exact ov_eqS | with_reducible exact ov_notB
  | with_reducible exact ov_isN | with_reducible exact ov_notN
  | with_reducible apply dv_neg
  | with_reducible apply dv_isInt | with_reducible apply dv_isBool
  | with_reducible apply dv_cb
  | (with_reducible exact cv_tupleK) | (with_reducible exact cv_tupF) | (with_reducible exact cv_intK) | (with_reducible exact cv_sum) | (with_reducible exact cv_all) | (with_reducible exact cv_any) | ((with_reducible apply cv_lenK); rfl)
  | (exact ov_ixT rfl rfl) | (exact ov_ixL rfl)
  | with_reducible apply dv_din | with_reducible apply dv_dnotin
  | (show D.items _ = some _; rfl) | (show D.seq _ = some _; rfl) | ((show WF _); assumption))
local macro_rules | `(tactic| walk_at "s") => `(tactic| first | with_reducible apply cl_power_in | with_reducible apply cl_size_in | with_reducible apply cl_weight_of | with_reducible apply cl_rows_in | with_reducible apply cl_web_in | with_reducible apply cl_movers_in | with_reducible apply cl_moved_in | with_reducible apply cl_still_in | with_reducible apply cl_moved_by | with_reducible apply cl_movers_on | with_reducible apply cl_struck_by | with_reducible apply cl_subsets_of | with_reducible apply cl_cut_in | with_reducible apply cl_log_in | with_reducible apply cl_row_power | with_reducible apply cl_power_in_rows | with_reducible apply cl_alike_in | with_reducible apply cl_is_undivided | with_reducible apply cl_is_whole_number | with_reducible apply cl_is_count | with_reducible apply cl_is_small_prime | with_reducible apply cl_is_pair | with_reducible apply cl_are_rising | with_reducible apply cl_are_primes_among | with_reducible apply cl_prime_fault | with_reducible apply cl_move_fault | with_reducible apply cl_row_fault | with_reducible apply cl_table_fault | with_reducible apply cl_want2 | with_reducible apply cl_want_table1 | with_reducible apply cl_want_table2 | with_reducible apply cl_want_primes2 | with_reducible apply cl_want_both | with_reducible apply cl_are_alike | with_reducible apply cl_moved_out | with_reducible apply cl_parts_in | with_reducible apply cl_part_count | with_reducible apply cl_is_like_part | with_reducible apply cl_alike_parts_in | with_reducible apply cl_parts_alike | with_reducible apply cl_cut_to | with_reducible apply cl_other_moved )
/-! logs put together -/
abbrev Ls := List (Int × Option Int)
def getL (ks : Ls) (k : Int) : Option (Option Int) := (ks.find? fun kv => decide (kv.1 = k)).map (·.2)
def putL (ks : Ls) (k : Int) (d : Option Int) : Ls :=
  if (ks.any fun kv => decide (kv.1 = k)) = true then ks.map (fun kv => if kv.1 = k then (kv.1, d) else kv) else ks ++ [(k, d)]
theorem enc_get (ks : Ls) (k : Int) : getD' (encLogs ks) k = (getL ks k).map dOpt := by
  unfold getD' encLogs getL
  rw [List.find?_map, Option.map_map, Option.map_map] <;> rfl
theorem enc_put (ks : Ls) (k : Int) (d : Option Int) : putD (encLogs ks) k (dOpt d) = encLogs (putL ks k d) := by
  unfold putD putL
  have e : ((encLogs ks).any fun kv => decide (kv.1 = k)) = (ks.any fun kv => decide (kv.1 = k)) := by
    unfold encLogs
    rw [List.any_map] <;> rfl
  rw [e]
  split
  · unfold encLogs
    rw [List.map_map, List.map_map]
    refine List.map_congr_left fun kv _ => ?_
    show (if kv.1 = k then _ else _) = _
    simp only [Function.comp]
    split <;> rfl
  · unfold encLogs
    rw [List.map_append] <;> rfl
def knowM : Ls → Ls → Option Ls
  | known, [] => some known
  | known, (m, l) :: ls => if (getL known m).isSome = true ∧ getL known m ≠ some l then none else knowM (putL known m l) ls
def knowAll (T : Tab) (r : Int) : List Int → Ls → Option Ls
  | [], k => some k
  | q :: qs, k => match logsM T q (r % q) with
    | none => none
    | some ls => match knowM k ls with
      | none => none
      | some k' => knowAll T r qs k'
def manyM (T : Tab) (Q : List Int) (r : Int) : Int := match knowAll T r Q [] with
  | none => 0
  | some k => prodI ((movers T).filter fun m => !(getL k m).isSome)
theorem putL_len (ks : Ls) (k : Int) (d : Option Int) : (putL ks k d).length ≤ ks.length + 1 := by
  unfold putL
  split
  · rw [List.length_map]
    omega
  · rw [List.length_append] <;> exact Nat.le_refl _
theorem logsM_keys {T : Tab} {q r : Int} {ls : Ls} (h : logsM T q r = some ls) : ls.map (·.1) = moversOn T q := by
  unfold logsM at h
  split at h
  · cases h
  · cases h
    rw [List.map_map]
    exact List.map_id _
theorem getL_at : ∀ {ls : Ls} {n : Nat} {m : Int} {l : Option Int}, (ls.map (·.1)).Pairwise (· < ·) → ls[n]? = some (m, l) → getL ls m = some l
  | [], n, m, l, _, h => by simp at h
  | (a, b) :: ls, 0, m, l, _, h => by
    cases h
    unfold getL
    rw [List.find?_cons, decide_eq_true rfl] <;> rfl
  | (a, b) :: ls, n + 1, m, l, hs, h => by
    rw [List.map_cons, List.pairwise_cons] at hs
    have h : ls[n]? = some (m, l) := by simpa using h
    have := hs.1 m (List.mem_map.mpr ⟨(m, l), List.mem_of_getElem? h, rfl⟩)
    have ih := getL_at hs.2 h
    unfold getL at ih ⊢
    rw [List.find?_cons, decide_eq_false (show ¬ a = m from fun e => by have : a < m := this; omega)]
    exact ih
theorem drop_cons {α : Type} {xs : List α} {i : Nat} {x : α} (h : xs[i]? = some x) : xs.drop i = x :: xs.drop (i + 1) := by
  obtain ⟨h1, rfl⟩ := List.getElem?_eq_some_iff.mp h
  exact List.drop_eq_getElem_cons h1
section
variable {P : Program} {w : World} {K : PySem.W.Frag} {mg : Str → Option Value} {base : Heap} {f : Addr} {fd : FuncData} {tv : Value} {sl : List Sl} {tr : TA} {E : XK}
theorem ov_neO {a b : Option Int} : OV rNe (dOpt a) (dOpt b) (.bl (!decide (a = b))) := fun G H x y gh rx ry Q q => by
  cases a with
  | none =>
    cases rx
    cases b with
    | none =>
      cases ry
      exact ⟨rfl, q G H _ (Step.id gh) (.bl _)⟩
    | some j =>
      cases ry
      exact ⟨rfl, q G H _ (Step.id gh) (.bl _)⟩
  | some i =>
    cases rx
    cases b with
    | none =>
      cases ry
      exact ⟨rfl, q G H _ (Step.id gh) (.bl _)⟩
    | some j =>
      cases ry
      refine ⟨rfl, ?_⟩
      have e : decide (V.int i = V.int j) = decide (some i = some j) := by
        by_cases h : i = j
        · subst h
          rw [decide_eq_true rfl, decide_eq_true rfl]
        · rw [decide_eq_false (fun z => h (V.int.inj z)), decide_eq_false (fun z => h (Option.some.inj z))]
      rw [e]
      exact q G H _ (Step.id gh) (.bl _)

abbrev s_many_with : Stmt := topS 63
abbrev N_many_with : List Str := ["table", "primes", "r", "known", "prime", "logs", "mover"]
theorem sc_many_with : FnScope N_many_with ["table", "primes", "r"] (defScope s_many_with) := ⟨rfl, rfl, rfl, by decide +kernel, rfl, by decide +kernel, by decide +kernel⟩
def sp_many_with : Sp := spF (fun x : Tab × List Int × Int => [dTab x.1, dTI x.2.1, .int x.2.2]) (fun x => WF x.1 ∧ (∀ q ∈ x.2.1, q ∈ PS) ∧ x.2.1.length ≤ 5) (fun x => .int (manyM x.1 x.2.1 x.2.2))
theorem ok_many_with (D_logs_at : Def P w K mg base "logs_at" ["table", "prime", "quotient"] [] 3 sp_logs_at) (D_size_in : Def P w K mg base "size_in" ["primes"] [] 1 sp_size_in) (D_movers_in : Def P w K mg base "movers_in" ["table"] [] 1 sp_movers_in) (F : Fun K "many_with" "many_with" s_many_with f fd) : FnOk P w K mg base CX0 4 f fd ["table", "primes", "r"] sp_many_with := by
  have nd := sc_many_with.nd
  refine F.ok (k := 3) sc_many_with (fun vs H Q E h => spF_len (n:=3) (fun _ => rfl) h) (fun cdv A outer s H vs Q E hr h => ?_)
  refine ⟨_, (pss_cons (ps_set (i := 3) nd rfl (Or.inr rfl) pe_dnewK)
      (pss_cons (ps_for PassesOwn.never rfl (pi_tupK K (pv 1)) (pg_name (i := 4) nd rfl (Or.inl rfl)) (pss_cons (ps_set (i := 5) nd rfl (Or.inl rfl) (pe_def D_logs_at (hr.mono (by decide)) (by rfl) (pa_cons (pv 0) (pa_cons (pv 4) (pa_cons (pe_op op_mod (pv 2) (pv 4)) pa_nil)))))
      (pss_cons (ps_if (pt_cmpR op_isN (pv 5) pe_non (nomark _)) (pss_one (ps_ret pe_int)) pss_nil)
      (pss_one (ps_lock (ps_for PassesOwn.never rfl (pi_keys (pv 5)) (pg_name (i := 6) nd rfl (Or.inl rfl)) (pss_cons (ps_if (PW.pt (pw_and (pt_cmp (pc_din (hu_of hr) (pv 6) (pv 3)) rfl) (pw_and1 (pt_cmpR op_ne (pe_dget (hu_of hr) (pv 3) (pv 6) (fun _ _ => rfl)) (pe_dget (hu_of hr) (pv 5) (pv 6) (fun _ _ => rfl)) (nomark _))))) (pss_one (ps_ret pe_int)) pss_nil)
      (pss_one (ps_dput (hu_of hr) (pv 3) (pv 6) (pe_dget (hu_of hr) (pv 5) (pv 6) (fun _ _ => rfl)) rfl)))))))))
      (pss_one (ps_ret (pe_def D_size_in (hr.mono (by decide)) (by rfl) (pa_cons (pe_lc (own := [("mover", 6)]) rfl nd (pi_tupK K (pe_def D_movers_in (hr.mono (by decide)) (by rfl) (pa_cons (pv 0) pa_nil))) (blkOk_by (N := N_many_with) (sc := (defScope s_many_with)) (by decide +kernel)) (fun _ _ _ _ _ => (pg_name (i := 6) nd rfl (Or.inl rfl))) (fun _ _ _ _ _ => pts_one (pt_cmp (pc_dnotin (hu_of hr) (pv 6) (pv 3)) rfl)) (fun _ _ _ _ _ => (pv 6))) pa_nil)))))), body_ok (N := N_many_with) h fun x hp => ?_⟩
  obtain ⟨T, Q', r⟩ := x
  obtain ⟨hw, hq, hl⟩ := hp
  dsimp only at hw hq hl
  show DS _ [.d (dTab T), .d (dTI Q'), .d (.int r), .un, .un, .un, .un] _
  apply ds_seq
  apply ds_asgM (ks := encLogs [])
  · exact dm_new
  apply ds_seq
  refine ds_for Q' D.int (fun q => [(4, .int q)]) (fun i s => ∃ k a b c, s = [.d (dTab T), .d (dTI Q'), .d (.int r), .md (encLogs k), a, b, c] ∧ k.length ≤ 100 * i ∧ knowAll T r (Q'.drop i) k = knowAll T r Q' []) (di_tup (d := dTI Q') ?_ rfl) (fun _ _ => dg_name) ⟨[], _, _, _, rfl, Nat.le_refl _, by rw [List.drop_zero]⟩ ?_ ?_
  · repeat' walk_at "s"
  · rintro i q s hi ⟨k, a, b, c, rfl, kl, kn⟩
    have q2 := ps_lo (hq q (mem_at hi))
    have il : i < Q'.length := (List.getElem?_eq_some_iff.mp hi).1
    rw [drop_cons hi, knowAll] at kn
    apply ds_seq
    refine ds_callM (enc := fun x : Tab × Int × Int => [dTab x.1, .int x.2.1, .int x.2.2]) (pre := fun x => WF x.1 ∧ 2 ≤ x.2.1 ∧ x.2.1 < 10000) (res := fun x => (logsM x.1 x.2.1 x.2.2).map encLogs) (T, q, r % q) ?_ ⟨hw, q2.1, by show q < 10000; omega⟩ (fun hn => ?_) (fun ks hk => ?_)
    · repeat' walk_at "s"
    · have hn : logsM T q (r % q) = none := by simpa using hn
      rw [hn] at kn
      dsimp only at kn
      apply ds_seq
      apply ds_if (b := D.non.isN)
      · repeat' walk_at "s"
      · intro _
        apply ds_ret
        · repeat' walk_at "s"
        · show D.int 0 = D.int (manyM T Q' r)
          unfold manyM
          rw [← kn]
      · intro hb
        cases hb
    · obtain ⟨ls, hls, rfl⟩ := Option.map_eq_some_iff.mp hk
      have hls : logsM T q (r % q) = some ls := hls
      rw [hls] at kn
      dsimp only at kn
      have keys := logsM_keys hls
      have srt : (ls.map (·.1)).Pairwise (· < ·) := by
        rw [keys]
        exact moversOn_nd hw q
      have lsl : ls.length ≤ 25 := by
        have := moversOn_len hw q
        rw [← keys, List.length_map] at this
        exact this
      apply ds_seq
      apply ds_if (b := (D.dic (encLogs ls)).isN)
      · refine dt_peekM (i := 5) rfl ?_
        repeat' walk_at "s"
      · intro hb
        cases hb
      intro _
      apply ds_nx
      have kl' : (encLogs ls).map (·.1) = ls.map (·.1) := by
        unfold encLogs
        rw [List.map_map] <;> rfl
      refine ds_forK (i := 5) (ks := encLogs ls) (fun n s => ∃ k' c, s = [.d (dTab T), .d (dTI Q'), .d (.int r), .md (encLogs k'), .d (.int q), .d (.dic (encLogs ls)), c] ∧ k'.length ≤ k.length + n ∧ knowM k' (ls.drop n) = knowM k ls) rfl ⟨k, c, rfl, Nat.le_refl _, by rw [List.drop_zero]⟩ ?_ ?_ (fun n s ⟨k', c, e, _, _⟩ => by rw [e] <;> rfl)
      · rintro n m s hn ⟨k', c, rfl, kl2, kn2⟩
        rw [kl', List.getElem?_map] at hn
        obtain ⟨⟨m', l⟩, hnl, rfl⟩ := Option.map_eq_some_iff.mp hn
        have nl : n < ls.length := (List.getElem?_eq_some_iff.mp hnl).1
        have gl := getL_at srt hnl
        have gD : getD' (encLogs ls) m' = some (dOpt l) := by rw [enc_get, gl] <;> rfl
        rw [drop_cons hnl, knowM] at kn2
        dsimp only
        apply ds_seq
        apply ds_if (b := (getD' (encLogs k') m').isSome && !decide (getL k' m' = some l))
        · refine dt_peekM (i := 3) rfl ?_
          apply dt_and
          · repeat' walk_at "s"
          · intro hs
            have hs2 : (getL k' m').isSome = true := by rw [enc_get, Option.isSome_map] at hs; exact hs
            obtain ⟨l0, hl0⟩ := Option.isSome_iff_exists.mp hs2
            apply DT.cast
            · apply dt_test
              apply dv_op
              · exact dv_dget (ds := encLogs k') (k := m') (dv_var rfl) (dv_var rfl) (by rw [enc_get, hl0] <;> rfl)
              · exact dv_dget (ds := encLogs ls) (k := m') (dv_var rfl) (dv_var rfl) gD
              · exact ov_neO
            · rw [hl0]
              by_cases h : l0 = l
              · rw [h, decide_eq_true rfl, decide_eq_true rfl]
              · rw [decide_eq_false h, decide_eq_false (fun z => h (Option.some.inj z))]
        · intro hb
          rw [enc_get, Option.isSome_map] at hb
          have hb2 : (getL k' m').isSome = true ∧ getL k' m' ≠ some l := by simpa using hb
          rw [if_pos hb2] at kn2
          rw [← kn2] at kn
          dsimp only at kn
          apply ds_ret
          · repeat' walk_at "s"
          · show D.int 0 = D.int (manyM T Q' r)
            unfold manyM
            rw [← kn]
        · intro hb
          rw [enc_get, Option.isSome_map] at hb
          have hb2 : ¬ ((getL k' m').isSome = true ∧ getL k' m' ≠ some l) := by simpa using hb
          rw [if_neg hb2] at kn2
          apply ds_nx
          refine ds_dput (i := 3) (ks := encLogs k') rfl (dv_dget (ds := encLogs ls) (k := m') (d := dOpt l) (dv_var rfl) (dv_var rfl) gD) (dv_var rfl) ?_ ?_
          · unfold encLogs
            rw [List.length_map]
            omega
          · rw [enc_put]
            exact ⟨_, _, rfl, by have := putL_len k' m' l; omega, kn2⟩
      · rintro s ⟨k', c, rfl, kl2, kn2⟩
        have ll : (encLogs ls).length = ls.length := List.length_map ..
        rw [ll, List.drop_length, knowM] at kn2
        rw [← kn2] at kn
        dsimp only at kn
        exact ⟨k', _, _, _, rfl, by omega, kn⟩
  · rintro s ⟨k, a, b, c, rfl, kl, kn⟩
    rw [List.drop_length, knowAll] at kn
    have := hw.ml
    refine ds_frzM 3 rfl ?_
    apply ds_ret
    · apply cl_size_in (d := .lst (((movers T).filter fun m => !(getL k m).isSome).map D.int)) (ns := (movers T).filter fun m => !(getL k m).isSome)
      · apply da_cons
        · refine DV.cast (dl_lcE (movers T) D.int (fun m => [(6, .int m)]) (fun m => !(getL k m).isSome) id D.int (di_tup (d := dTI (movers T)) ?_ rfl) (fun _ _ => dg_name) (fun _ _ => rfl) (fun m _ => ?_) (fun p _ _ => ?_) (by unfold movers; rw [List.length_map]; omega)) (by rw [List.map_id])
          · repeat' walk_at "s"
          · apply DT.cast
            · repeat' walk_at "s"
            · rw [enc_get, Option.isSome_map]
          · repeat' walk_at "s"
        · exact da_nil
      · rfl
      · intro n hn
        have := ps_of hw (mover_in hw (List.mem_filter.mp hn).1)
        omega
    · show D.int _ = D.int (manyM T Q' r)
      unfold manyM
      rw [← kn]
end
end Wa
set_option maxHeartbeats 4000000
namespace Wa
open PySem PySem.Spec PyProof.Rows L2
local macro_rules | `(tactic| walk_at "s") => `(tactic| first
  | with_reducible exact dv_int | with_reducible exact dv_bl | with_reducible exact dv_str | with_reducible exact dv_non
  | ((with_reducible apply dv_var); first | rfl | (show _ = _; assumption))
  | with_reducible apply dv_op
  | with_reducible apply da_cons | with_reducible exact da_nil
  | with_reducible apply dv_tup2 | with_reducible apply dv_tup1 | with_reducible apply dv_tup3 | with_reducible exact dv_tup0
  | with_reducible apply dv_isN | with_reducible apply dv_notN
  | with_reducible apply dt_test | with_reducible apply dt_B | with_reducible exact dt_yes
  | with_reducible apply (dt_and ?_ fun _ => ?_) | with_reducible apply (dt_or ?_ fun _ => ?_) | with_reducible apply dt_not
  | with_reducible apply (dv_and ?_ fun _ => ?_) | with_reducible apply dv_not
  | with_reducible apply (dv_chain (g := D.non) ?_ ?_ ?_ (fun _ => ?_) (fun _ => ?_))
  | with_reducible exact ov_I0 | with_reducible exact ov_B0 | ((with_reducible apply ov_I); first | (show 0 < _; omega) | (unfold CDiv; omega) | (unfold CMul; omega) | (unfold CDivN; omega) | skip)
  | with_reducible exact ov_eqI | with_reducible exact ov_neI | with_reducible exact ov_eqB | with_reducible exact ov_eqS | with_reducible exact ov_notB
  | with_reducible exact ov_isN | with_reducible exact ov_notN
  | with_reducible apply dv_neg
  | with_reducible apply dv_isInt | with_reducible apply dv_isBool
  | with_reducible apply dv_cb
  | (with_reducible exact cv_tupleK) | (with_reducible exact cv_tupF) | (with_reducible exact cv_intK) | (with_reducible exact cv_sum) | (with_reducible exact cv_all) | (with_reducible exact cv_any) | ((with_reducible apply cv_lenK); rfl)
  | (exact ov_ixT rfl rfl) | (exact ov_ixL rfl)
  | with_reducible apply dv_din | with_reducible apply dv_dnotin
  | (show D.items _ = some _; rfl) | (show D.seq _ = some _; rfl) | ((show WF _); assumption))
local macro_rules | `(tactic| walk_at "s") => `(tactic| first | with_reducible apply cl_power_in | with_reducible apply cl_size_in | with_reducible apply cl_weight_of | with_reducible apply cl_rows_in | with_reducible apply cl_web_in | with_reducible apply cl_movers_in | with_reducible apply cl_moved_in | with_reducible apply cl_still_in | with_reducible apply cl_moved_by | with_reducible apply cl_movers_on | with_reducible apply cl_struck_by | with_reducible apply cl_subsets_of | with_reducible apply cl_cut_in | with_reducible apply cl_log_in | with_reducible apply cl_row_power | with_reducible apply cl_power_in_rows | with_reducible apply cl_alike_in | with_reducible apply cl_is_undivided | with_reducible apply cl_is_whole_number | with_reducible apply cl_is_count | with_reducible apply cl_is_small_prime | with_reducible apply cl_is_pair | with_reducible apply cl_are_rising | with_reducible apply cl_are_primes_among | with_reducible apply cl_prime_fault | with_reducible apply cl_move_fault | with_reducible apply cl_row_fault | with_reducible apply cl_table_fault | with_reducible apply cl_want2 | with_reducible apply cl_want_table1 | with_reducible apply cl_want_table2 | with_reducible apply cl_want_primes2 | with_reducible apply cl_want_both | with_reducible apply cl_are_alike | with_reducible apply cl_moved_out | with_reducible apply cl_parts_in | with_reducible apply cl_part_count | with_reducible apply cl_is_like_part | with_reducible apply cl_alike_parts_in | with_reducible apply cl_parts_alike | with_reducible apply cl_cut_to | with_reducible apply cl_other_moved )
theorem weight_bd : ∀ ns : List Int, (∀ n ∈ ns, 2 ≤ n ∧ n ≤ 31) → ns.length ≤ 5 → 0 ≤ weight ns ∧ weight ns ≤ 24300000 := fun ns hn hl => by
  have go : ∀ (ns : List Int) (a : Int), 0 ≤ a → (∀ n ∈ ns, 2 ≤ n ∧ n ≤ 31) → 0 ≤ ns.foldl (fun a p => a * (p - 1)) a ∧ ns.foldl (fun a p => a * (p - 1)) a ≤ a * 30 ^ ns.length := fun ns => by
    induction ns with
    | nil => exact fun a h _ => ⟨h, by simp⟩
    | cons n ns ih =>
      intro a ha hn
      obtain ⟨n1, n2⟩ := hn n List.mem_cons_self
      obtain ⟨h1, h2⟩ := ih (a * (n - 1)) (Int.mul_nonneg ha (by omega)) fun x hx => hn x (List.mem_cons_of_mem _ hx)
      refine ⟨h1, Int.le_trans h2 ?_⟩
      rw [List.length_cons, Int.pow_succ, Int.mul_assoc, Int.mul_comm (30 ^ _)]
      exact Int.mul_le_mul_of_nonneg_left (Int.mul_le_mul_of_nonneg_right (by omega) (Int.pow_nonneg (by decide))) ha
  obtain ⟨h1, h2⟩ := go ns 1 (by decide) hn
  refine ⟨h1, Int.le_trans h2 ?_⟩
  rw [Int.one_mul]
  have : ns.length = 0 ∨ ns.length = 1 ∨ ns.length = 2 ∨ ns.length = 3 ∨ ns.length = 4 ∨ ns.length = 5 := by omega
  rcases this with e | e | e | e | e | e <;> rw [e] <;> decide
theorem prodI_bd : ∀ ns : List Int, (∀ n ∈ ns, 2 ≤ n ∧ n ≤ 31) → ns.length ≤ 5 → 0 ≤ prodI ns ∧ prodI ns ≤ 28629151 := fun ns hn hl => by
  have go : ∀ (ns : List Int) (a : Int), 0 ≤ a → (∀ n ∈ ns, 2 ≤ n ∧ n ≤ 31) → 0 ≤ ns.foldl (· * ·) a ∧ ns.foldl (· * ·) a ≤ a * 31 ^ ns.length := fun ns => by
    induction ns with
    | nil => exact fun a h _ => ⟨h, by simp⟩
    | cons n ns ih =>
      intro a ha hn
      obtain ⟨n1, n2⟩ := hn n List.mem_cons_self
      obtain ⟨h1, h2⟩ := ih (a * n) (Int.mul_nonneg ha (by omega)) fun x hx => hn x (List.mem_cons_of_mem _ hx)
      refine ⟨h1, Int.le_trans h2 ?_⟩
      rw [List.length_cons, Int.pow_succ, Int.mul_assoc, Int.mul_comm (31 ^ _)]
      exact Int.mul_le_mul_of_nonneg_left (Int.mul_le_mul_of_nonneg_right (by omega) (Int.pow_nonneg (by decide))) ha
  obtain ⟨h1, h2⟩ := go ns 1 (by decide) hn
  refine ⟨h1, Int.le_trans h2 ?_⟩
  rw [Int.one_mul]
  have : ns.length = 0 ∨ ns.length = 1 ∨ ns.length = 2 ∨ ns.length = 3 ∨ ns.length = 4 ∨ ns.length = 5 := by omega
  rcases this with e | e | e | e | e | e <;> rw [e] <;> decide
theorem map_take_snoc {α β : Type} {xs : List α} {i : Nat} {x : α} (h : xs[i]? = some x) (f : α → β) : (xs.take (i + 1)).map f = (xs.take i).map f ++ [f x] := by
  rw [take_snoc h, List.map_append] <;> rfl
def rowsM (T : Tab) (r : Int) (M : List Int) : Int := ((subsets (otherM T (struck T M))).map fun Q => weight Q * manyM T Q r).sum
def freeM (T : Tab) (r : Int) : List Int := (movers T).filter fun m => decide ((r - 1) % m = 0)
def stillF (r a p : Int) : Int := a * (if (r - 1) % p = 0 then p * p else p)
def twistM (T : Tab) (r : Int) : Int := (still T).foldl (stillF r) (((subsets (freeM T r)).map fun M => weight M * rowsM T r M).sum) * prodI (moved T)
section
variable {P : Program} {w : World} {K : PySem.W.Frag} {mg : Str → Option Value} {base : Heap} {f : Addr} {fd : FuncData} {tv : Value} {sl : List Sl} {tr : TA} {E : XK}

abbrev s_twisted_in : Stmt := topS 64
abbrev N_twisted_in : List Str := ["table", "r", "found", "movers", "mover", "late", "rows", "primes", "prime"]
theorem sc_twisted_in : FnScope N_twisted_in ["table", "r"] (defScope s_twisted_in) := ⟨rfl, rfl, rfl, by decide +kernel, rfl, by decide +kernel, by decide +kernel⟩
def sp_twisted_in : Sp := spF (fun x : Tab × Int => [dTab x.1, .int x.2]) (fun x => WF x.1) (fun x => .int (twistM x.1 x.2))
theorem ok_twisted_in (D_subsets_of : Def P w K mg base "subsets_of" ["primes"] [] 1 sp_subsets_of) (D_movers_in : Def P w K mg base "movers_in" ["table"] [] 1 sp_movers_in) (D_other_moved : Def P w K mg base "other_moved" ["table", "gone"] [] 3 sp_other_moved) (D_struck_by : Def P w K mg base "struck_by" ["table", "movers"] [] 3 sp_struck_by) (D_weight_of : Def P w K mg base "weight_of" ["primes"] [] 1 sp_weight_of) (D_many_with : Def P w K mg base "many_with" ["table", "primes", "r"] [] 4 sp_many_with) (D_still_in : Def P w K mg base "still_in" ["table"] [] 2 sp_still_in) (D_size_in : Def P w K mg base "size_in" ["primes"] [] 1 sp_size_in) (D_moved_in : Def P w K mg base "moved_in" ["table"] [] 2 sp_moved_in) (B : Blt mg tv) (F : Fun K "twisted_in" "twisted_in" s_twisted_in f fd) : FnOk P w K mg base CX0 5 f fd ["table", "r"] sp_twisted_in := by
  have nd := sc_twisted_in.nd
  refine F.ok (k := 4) sc_twisted_in (fun vs H Q E h => spF_len (n:=2) (fun _ => rfl) h) (fun cdv A outer s H vs Q E hr h => ?_)
  refine ⟨_, (pss_cons (ps_set (i := 2) nd rfl (Or.inl rfl) pe_int)
      (pss_cons (ps_for PassesOwn.never rfl (pi_listK K (pe_def D_subsets_of (hr.mono (by decide)) (by rfl) (pa_cons (pe_lc (own := [("mover", 4)]) rfl nd (pi_tupK K (pe_def D_movers_in (hr.mono (by decide)) (by rfl) (pa_cons (pv 0) pa_nil))) (blkOk_by (N := N_twisted_in) (sc := (defScope s_twisted_in)) (by decide +kernel)) (fun _ _ _ _ _ => (pg_name (i := 4) nd rfl (Or.inl rfl))) (fun _ _ _ _ _ => pts_one (pt_cmpR op_eq (pe_op op_mod (pe_op op_sub (pv 1) pe_int) (pv 4)) pe_int (nomark _))) (fun _ _ _ _ _ => (pv 4))) pa_nil))) (pg_name (i := 3) nd rfl (Or.inl rfl)) (pss_cons (ps_set (i := 5) nd rfl (Or.inl rfl) (pe_def D_other_moved (hr.mono (by decide)) (by rfl) (pa_cons (pv 0) (pa_cons (pe_def D_struck_by (hr.mono (by decide)) (by rfl) (pa_cons (pv 0) (pa_cons (pv 3) pa_nil))) pa_nil))))
      (pss_cons (ps_set (i := 6) nd rfl (Or.inl rfl) (pe_callB (cr_sumK K rfl) (by rfl) B.sum_ (by decide +kernel) (pa_cons (pe_lc (own := [("primes", 7)]) rfl nd (pi_listK K (pe_def D_subsets_of (hr.mono (by decide)) (by rfl) (pa_cons (pv 5) pa_nil))) (blkOk_by (N := N_twisted_in) (sc := (defScope s_twisted_in)) (by decide +kernel)) (fun _ _ _ _ _ => (pg_name (i := 7) nd rfl (Or.inl rfl))) (fun _ _ _ _ _ => pts_nil) (fun _ _ _ _ _ => (pe_op op_mul (pe_def D_weight_of (hr.mono (by decide)) (by rfl) (pa_cons (pv 7) pa_nil)) (pe_def D_many_with (hr.mono (by decide)) (by rfl) (pa_cons (pv 0) (pa_cons (pv 7) (pa_cons (pv 1) pa_nil))))))) pa_nil)))
      (pss_one (ps_set (i := 2) nd rfl (Or.inl rfl) (pe_op op_add (pv 2) (pe_op op_mul (pe_def D_weight_of (hr.mono (by decide)) (by rfl) (pa_cons (pv 3) pa_nil)) (pv 6))))))))
      (pss_cons (ps_for PassesOwn.never rfl (pi_tupK K (pe_def D_still_in (hr.mono (by decide)) (by rfl) (pa_cons (pv 0) pa_nil))) (pg_name (i := 8) nd rfl (Or.inl rfl)) (pss_one (ps_set (i := 2) nd rfl (Or.inl rfl) (pe_op op_mul (pv 2) (pe_ifExp (pt_cmpR op_eq (pe_op op_mod (pe_op op_sub (pv 1) pe_int) (pv 8)) pe_int (nomark _)) (pe_op op_mul (pv 8) (pv 8)) (pv 8))))))
      (pss_one (ps_ret (pe_op op_mul (pv 2) (pe_def D_size_in (hr.mono (by decide)) (by rfl) (pa_cons (pe_def D_moved_in (hr.mono (by decide)) (by rfl) (pa_cons (pv 0) pa_nil)) pa_nil)))))))), body_ok (N := N_twisted_in) h fun x hp => ?_⟩
  obtain ⟨T, r⟩ := x
  have hw : WF T := hp
  have ml := hw.ml
  have pl := hw.pl
  have mvl : (movers T).length ≤ 5 := by unfold movers; rw [List.length_map]; exact ml
  have mop : ∀ m ∈ movers T, 2 ≤ m ∧ m ≤ 31 := fun m hm => ps_of hw (mover_in hw hm)
  have fl : (freeM T r).length ≤ 5 := Nat.le_trans (List.length_filter_le _ _) mvl
  have mdp : ∀ q ∈ moved T, q ∈ PS := fun q hq => hw.pin q (List.mem_filter.mp hq).1
  have mdl : (moved T).length ≤ 5 := Nat.le_trans (List.length_filter_le _ _) pl
  show DS _ [.d (dTab T), .d (.int r), .un, .un, .un, .un, .un, .un, .un] _
  apply ds_seq
  apply ds_set
  · repeat' walk_at "s"
  apply ds_seq
  refine ds_for (subsets (freeM T r)) dTI (fun M => [(3, dTI M)]) (fun i s => ∃ a b c e g h, s = [.d (dTab T), .d (.int r), .d (.int ((((subsets (freeM T r)).take i).map fun M => weight M * rowsM T r M).sum)), a, b, c, e, g, h]) (di_list ?_) (fun _ _ => dg_name) ⟨_, _, _, _, _, _, rfl⟩ ?_ ?_
  · apply cl_subsets_of (d := .lst ((freeM T r).map D.int)) (ns := freeM T r)
    · apply da_cons
      · refine DV.cast (dl_lcE (movers T) D.int (fun m => [(4, .int m)]) (fun m => decide ((r - 1) % m = 0)) id D.int (di_tup (d := dTI (movers T)) ?_ rfl) (fun _ _ => dg_name) (fun _ _ => rfl) (fun m hm => ?_) (fun p _ _ => ?_) (by omega)) (by rw [List.map_id] <;> rfl)
        · repeat' walk_at "s"
        · have := mop m hm
          repeat' walk_at "s"
        · repeat' walk_at "s"
      · exact da_nil
    · rfl
    · exact fl
  · rintro i M s hi ⟨a, b, c, e, g, h, rfl⟩
    have hM := subsets_sub _ M (mem_at hi)
    have Mp : ∀ n ∈ M, 2 ≤ n ∧ n ≤ 31 := fun n hn => mop n (List.mem_filter.mp (hM.subset hn)).1
    have Ml : M.length ≤ 5 := Nat.le_trans hM.length_le fl
    have wM := weight_bd M Mp Ml
    have ol : (otherM T (struck T M)).length ≤ 5 := Nat.le_trans (List.length_filter_le _ _) mdl
    apply ds_seq
    apply ds_set (d := dTI (otherM T (struck T M)))
    · repeat' walk_at "s"
    apply ds_seq
    apply ds_set (d := .int (rowsM T r M))
    · apply dv_cb
      · apply da_cons
        · refine dl_lcE0 (subsets (otherM T (struck T M))) dTI (fun Q => [(7, dTI Q)]) (fun Q => weight Q * manyM T Q r) D.int (di_list ?_) (fun _ _ => dg_name) (fun _ _ => rfl) (fun Q hQ => ?_) (by
            rw [subsets_len]
            exact Nat.le_trans (Nat.pow_le_pow_right (by decide) ol) (by decide))
          · apply cl_subsets_of (ns := otherM T (struck T M))
            · repeat' walk_at "s"
            · rfl
            · exact ol
          · have hQs := subsets_sub _ Q hQ
            have Qp : ∀ n ∈ Q, n ∈ PS := fun n hn => mdp n (List.mem_filter.mp (hQs.subset hn)).1
            have Ql : Q.length ≤ 5 := Nat.le_trans hQs.length_le ol
            have wQ := weight_bd Q (fun n hn => ps_lo (Qp n hn)) Ql
            apply dv_op
            · apply cl_weight_of (ns := Q)
              · repeat' walk_at "s"
              · exact fun n hn => by have := ps_lo (Qp n hn); omega
            · exact dv_call0 (enc := fun x : Tab × List Int × Int => [dTab x.1, dTI x.2.1, .int x.2.2]) (T, Q, r) (da_cons (dv_var rfl) (da_cons (dv_var rfl) (da_cons (dv_var rfl) da_nil))) ⟨hw, Qp, Ql⟩
            · exact ov_I (.inl ⟨by omega, by omega⟩)
        · exact da_nil
      · exact cv_sum
    apply ds_set
    · apply dv_op
      · repeat' walk_at "s"
      · apply dv_op
        · apply cl_weight_of (ns := M)
          · repeat' walk_at "s"
          · exact fun n hn => by have := Mp n hn; omega
        · repeat' walk_at "s"
        · exact ov_I (.inl ⟨by omega, by omega⟩)
      · exact ov_I0
    · exact ⟨_, _, _, _, _, _, by rw [map_take_snoc hi, List.sum_append, List.sum_cons, List.sum_nil, Int.add_zero] <;> rfl⟩
  rintro s ⟨a, b, c, e, g, h, rfl⟩
  rw [List.take_length]
  apply ds_seq
  refine ds_for (still T) D.int (fun p => [(8, .int p)]) (fun i s => ∃ h, s = [.d (dTab T), .d (.int r), .d (.int (((still T).take i).foldl (stillF r) (((subsets (freeM T r)).map fun M => weight M * rowsM T r M).sum))), a, b, c, e, g, h]) (di_tup (d := dTI (still T)) ?_ rfl) (fun _ _ => dg_name) ⟨_, rfl⟩ ?_ ?_
  · repeat' walk_at "s"
  · rintro i p s hi ⟨h, rfl⟩
    have hp2 := ps_of hw (List.mem_filter.mp (mem_at hi)).1
    have sq : p * p ≤ 31 * 31 := Int.mul_le_mul hp2.2 hp2.2 (by omega) (by decide)
    have sq0 : 0 ≤ p * p := Int.mul_nonneg (by omega) (by omega)
    apply ds_set (d := .int (stillF r (((still T).take i).foldl (stillF r) (((subsets (freeM T r)).map fun M => weight M * rowsM T r M).sum)) p))
    · apply dv_op
      · repeat' walk_at "s"
      · apply dv_if (b := decide ((r - 1) % p = 0)) (d := .int (if (r - 1) % p = 0 then p * p else p))
        · repeat' walk_at "s"
        · intro hb
          rw [if_pos (of_decide_eq_true hb)]
          repeat' walk_at "s"
        · intro hb
          rw [if_neg (of_decide_eq_false hb)]
          repeat' walk_at "s"
      · exact ov_I (.inr (by split <;> omega))
    · exact ⟨_, by rw [take_snoc hi, List.foldl_append] <;> rfl⟩
  rintro s ⟨h, rfl⟩
  rw [List.take_length]
  have pb := prodI_bd (moved T) (fun n hn => ps_lo (mdp n hn)) mdl
  apply ds_ret
  · apply dv_op
    · repeat' walk_at "s"
    · apply cl_size_in (d := dTI (moved T)) (ns := moved T)
      · repeat' walk_at "s"
      · rfl
      · exact fun n hn => by have := ps_lo (mdp n hn); omega
    · exact ov_I (.inr ⟨by omega, by omega⟩)
  · rfl
theorem cl_twisted_in {T : Tab} {r : Int} (h : DA tr sl [dTab T, .int r]) (hw : WF T) : DV (tCall sp_twisted_in [] E tr) sl (.int (twistM T r)) := dv_call0 (enc := fun x : Tab × Int => [dTab x.1, .int x.2]) (T, r) h hw
local macro_rules | `(tactic| walk_at "s") => `(tactic| with_reducible apply cl_twisted_in)

abbrev s_twisted_count : Stmt := topS 66
abbrev N_twisted_count : List Str := ["table", "r"]
theorem sc_twisted_count : FnScope N_twisted_count ["table", "r"] (defScope s_twisted_count) := ⟨rfl, rfl, rfl, by decide +kernel, rfl, by decide +kernel, by decide +kernel⟩
def sp_twisted_count : Sp := spF (fun x : Tab × Int => [dTab x.1, .int x.2]) (fun x => WF x.1 ∧ 0 ≤ x.2 ∧ x.2 < 10000) (fun x => .int (twistM x.1 x.2))
theorem ok_twisted_count (D_want_table1 : Def P w K mg base "want_table" ["value", "name"] [(V.str "table")] 5 sp_want_table) (D_want2 : Def P w K mg base "want" ["is_fit", "name", "at"] [(V.int (-1))] 1 sp_want) (D_is_count : Def P w K mg base "is_count" ["value"] [] 2 sp_is_count) (D_twisted_in : Def P w K mg base "twisted_in" ["table", "r"] [] 5 sp_twisted_in) (F : Fun K "twisted_count" "twisted_count" s_twisted_count f fd) : FnOk P w K mg base CX0 6 f fd ["table", "r"] sp_twisted_count := by
  have nd := sc_twisted_count.nd
  refine F.ok (k := 5) sc_twisted_count (fun vs H Q E h => spF_len (n:=2) (fun _ => rfl) h) (fun cdv A outer s H vs Q E hr h => ?_)
  refine ⟨_, (pss_cons (ps_expr (pe_def D_want_table1 (hr.mono (by decide)) (by rfl) (pa_cons (pv 0) pa_nil)))
      (pss_cons (ps_expr (pe_def D_want2 (hr.mono (by decide)) (by rfl) (pa_cons (pe_and (pe_def D_is_count (hr.mono (by decide)) (by rfl) (pa_cons (pv 1) pa_nil)) (pe_one (pe_cmpR op_lt (pv 1) (pe_op op_mulW (pe_op op_pow pe_int pe_int) (pe_op op_pow pe_int pe_int)) (nomark _)))) (pa_cons pe_str pa_nil))))
      (pss_one (ps_ret (pe_def D_twisted_in (hr.mono (by decide)) (by rfl) (pa_cons (pv 0) (pa_cons (pv 1) pa_nil))))))), body_ok (N := N_twisted_count) h fun x hp => ?_⟩
  obtain ⟨T, r⟩ := x
  obtain ⟨hw, h1, h2⟩ := hp
  dsimp only at hw h1 h2
  show DS _ [.d (dTab T), .d (.int r)] _
  apply ds_seq
  apply ds_drop
  · repeat' walk_at "s"
  apply ds_seq
  apply ds_drop
  · apply cl_want2 (b := decide (0 ≤ r) && decide (r < (10 : Int) ^ (60 : Int).toNat * (10 : Int) ^ (30 : Int).toNat)) (n := "r")
    · apply da_cons
      · apply dv_and
        · repeat' walk_at "s"
        · intro _
          apply dv_op
          · repeat' walk_at "s"
          · apply dv_op
            · apply dv_op
              · repeat' walk_at "s"
              · repeat' walk_at "s"
              · exact ov_I ⟨by decide, by decide, by decide⟩
            · apply dv_op
              · repeat' walk_at "s"
              · repeat' walk_at "s"
              · exact ov_I ⟨by decide, by decide, by decide⟩
            · exact ov_I (wide_mul (a := 300) (b := 300) (by decide) (by decide) (by decide) (by decide) (by decide))
          · exact ov_B0
      · repeat' walk_at "s"
    · rw [decide_eq_true h1, decide_eq_true (Int.lt_trans h2 (by decide))] <;> rfl
  apply ds_ret
  · repeat' walk_at "s"
  · rfl
theorem cl_twisted_count {T : Tab} {r : Int} (h : DA tr sl [dTab T, .int r]) (hw : WF T) (hr : 0 ≤ r ∧ r < 10000) : DV (tCall sp_twisted_count [] E tr) sl (.int (twistM T r)) := dv_call0 (enc := fun x : Tab × Int => [dTab x.1, .int x.2]) (T, r) h ⟨hw, hr⟩
local macro_rules | `(tactic| walk_at "s") => `(tactic| with_reducible apply cl_twisted_count)
end
end Wa
set_option maxHeartbeats 4000000
namespace Wa
open PySem PySem.Spec PyProof.Rows L2
local macro_rules | `(tactic| walk_at "s") => `(tactic| first
  | with_reducible exact dv_int | with_reducible exact dv_bl | with_reducible exact dv_str | with_reducible exact dv_non
  | ((with_reducible apply dv_var); first | rfl | (show _ = _; assumption))
  | with_reducible apply dv_op
  | with_reducible apply da_cons | with_reducible exact da_nil
  | with_reducible apply dv_tup2 | with_reducible apply dv_tup1 | with_reducible apply dv_tup3 | with_reducible exact dv_tup0
  | with_reducible apply dv_isN | with_reducible apply dv_notN
  | with_reducible apply dt_test | with_reducible apply dt_B | with_reducible exact dt_yes
  | with_reducible apply (dt_and ?_ fun _ => ?_) | with_reducible apply (dt_or ?_ fun _ => ?_) | with_reducible apply dt_not
  | with_reducible apply (dv_and ?_ fun _ => ?_) | with_reducible apply dv_not
  | with_reducible apply (dv_chain (g := D.non) ?_ ?_ ?_ (fun _ => ?_) (fun _ => ?_))
  | with_reducible exact ov_I0 | with_reducible exact ov_B0 | ((with_reducible apply ov_I); first | (show 0 < _; omega) | (unfold CDiv; omega) | (unfold CMul; omega) | (unfold CDivN; omega) | skip)
  | with_reducible exact ov_eqI | with_reducible exact ov_neI | with_reducible exact ov_eqB | with_reducible exact ov_eqS | with_reducible exact ov_notB
  | with_reducible exact ov_isN | with_reducible exact ov_notN
  | with_reducible apply dv_neg
  | with_reducible apply dv_isInt | with_reducible apply dv_isBool
  | with_reducible apply dv_cb
  | (with_reducible exact cv_tupleK) | (with_reducible exact cv_tupF) | (with_reducible exact cv_intK) | (with_reducible exact cv_sum) | (with_reducible exact cv_all) | (with_reducible exact cv_any) | ((with_reducible apply cv_lenK); rfl)
  | (exact ov_ixT rfl rfl) | (exact ov_ixL rfl)
  | with_reducible apply dv_din | with_reducible apply dv_dnotin
  | (show D.items _ = some _; rfl) | (show D.seq _ = some _; rfl) | ((show WF _); assumption))
local macro_rules | `(tactic| walk_at "s") => `(tactic| first | with_reducible apply cl_power_in | with_reducible apply cl_size_in | with_reducible apply cl_weight_of | with_reducible apply cl_rows_in | with_reducible apply cl_web_in | with_reducible apply cl_movers_in | with_reducible apply cl_moved_in | with_reducible apply cl_still_in | with_reducible apply cl_moved_by | with_reducible apply cl_movers_on | with_reducible apply cl_struck_by | with_reducible apply cl_subsets_of | with_reducible apply cl_cut_in | with_reducible apply cl_log_in | with_reducible apply cl_row_power | with_reducible apply cl_power_in_rows | with_reducible apply cl_alike_in | with_reducible apply cl_is_undivided | with_reducible apply cl_is_whole_number | with_reducible apply cl_is_count | with_reducible apply cl_is_small_prime | with_reducible apply cl_is_pair | with_reducible apply cl_are_rising | with_reducible apply cl_are_primes_among | with_reducible apply cl_prime_fault | with_reducible apply cl_move_fault | with_reducible apply cl_row_fault | with_reducible apply cl_table_fault | with_reducible apply cl_want2 | with_reducible apply cl_want_table1 | with_reducible apply cl_want_table2 | with_reducible apply cl_want_primes2 | with_reducible apply cl_want_both | with_reducible apply cl_are_alike | with_reducible apply cl_moved_out | with_reducible apply cl_parts_in | with_reducible apply cl_part_count | with_reducible apply cl_is_like_part | with_reducible apply cl_alike_parts_in | with_reducible apply cl_parts_alike | with_reducible apply cl_cut_to | with_reducible apply cl_other_moved | with_reducible apply cl_twisted_in | with_reducible apply cl_twisted_count )
theorem ov_eqLL {α : Type} [DecidableEq α] {K : PySem.W.Frag} {E : α → D} {n : Nat} (h : EqOk E n) (hn : n + 1 ≤ 60) {a b : List α} : OV (rEqD K) (.lst (a.map E)) (.lst (b.map E)) (.bl (decide (a = b))) := ov_eqD h.lst hn rfl (h.lst.nd a) rfl (h.lst.nd b)
theorem ov_neLL {α : Type} [DecidableEq α] {K : PySem.W.Frag} {E : α → D} {n : Nat} (h : EqOk E n) (hn : n + 1 ≤ 60) {a b : List α} : OV (rNeD K) (.lst (a.map E)) (.lst (b.map E)) (.bl (!decide (a = b))) := ov_neD h.lst hn rfl (h.lst.nd a) rfl (h.lst.nd b)
theorem dv_emp {sl : List Sl} {α : Type} (E : α → D) : DV (tLst tNil) sl (.lst (([] : List α).map E)) := (show DL _ _ [] from dl_lst da_nil).v
section
variable {P : Program} {w : World} {K : PySem.W.Frag} {mg : Str → Option Value} {base : Heap} {f : Addr} {fd : FuncData} {tv : Value} {sl : List Sl} {tr : TA} {E : XK}

abbrev s__law_up : Stmt := topS 72
abbrev N__law_up : List Str := ["_law_root", "_law_many_here", "_law_prime", "_law_found", "_law_lap"]
theorem sc__law_up : FnScope N__law_up ["_law_root", "_law_many_here", "_law_prime"] (defScope s__law_up) := ⟨rfl, rfl, rfl, by decide +kernel, rfl, by decide +kernel, by decide +kernel⟩
def sp__law_up : Sp := spF (fun x : Int × Int × Int => [.int x.1, .int x.2.1, .int x.2.2]) (fun x => 0 ≤ x.2.1 ∧ x.2.1 < 10000 ∧ 2 ≤ x.2.2 ∧ x.2.2 < 10000) (fun x => .int (upM x.1 x.2.1.toNat x.2.2))
theorem ok__law_up  (B : Blt mg tv) (F : Fun K "_law_up" "_law_up" s__law_up f fd) : FnOk P w K mg base CX0 1 f fd ["_law_root", "_law_many_here", "_law_prime"] sp__law_up := by
  have nd := sc__law_up.nd
  refine F.ok (k := 0) sc__law_up (fun vs H Q E h => spF_len (n:=3) (fun _ => rfl) h) (fun cdv A outer s H vs Q E hr h => ?_)
  refine ⟨_, (pss_cons (ps_set (i := 3) nd rfl (Or.inl rfl) pe_int)
      (pss_cons (ps_for PassesOwn.never rfl (pi_range1 rfl B.range_ (pa_cons (pv 1) pa_nil)) (pg_name (i := 4) nd rfl (Or.inl rfl)) (pss_one (ps_set (i := 3) nd rfl (Or.inl rfl) (pe_op op_mod (pe_callTy call_intK (by rfl) B.int_ (by decide +kernel) (pa_cons (pe_op op_mul (pv 3) (pv 0)) pa_nil)) (pv 2)))))
      (pss_one (ps_ret (pv 3))))), body_ok (N := N__law_up) h fun x hp => ?_⟩
  obtain ⟨g, m, p⟩ := x
  obtain ⟨h1, h2, h3, h4⟩ := hp
  dsimp only at h1 h2 h3 h4
  show DS _ [.d (.int g), .d (.int m), .d (.int p), .un, .un] _
  apply ds_seq
  apply ds_set (d := .int (upM g 0 p))
  · refine DV.cast dv_int ?_
    unfold upM
    rw [Int.pow_zero, Int.emod_eq_of_lt (by omega) (by omega)]
  apply ds_seq
  refine ds_for (List.range m.toNat) (fun i => .int (0 + (i : Int))) (fun i => [(4, .int (0 + (i : Int)))]) (fun i s => ∃ a, s = [.d (.int g), .d (.int m), .d (.int p), .d (.int (upM g i p)), a]) (di_rng1 ?_ ⟨by omega, by omega⟩) (fun _ _ => dg_name) ⟨_, rfl⟩ ?_ ?_
  · repeat' walk_at "s"
  · rintro i k s hi ⟨a, rfl⟩
    have q := upM_lo (b := g) (k := i) h3
    apply ds_set
    · repeat' walk_at "s"
    · exact ⟨_, by rw [upM_succ] <;> rfl⟩
  · rintro s ⟨a, rfl⟩
    apply ds_ret
    · repeat' walk_at "s"
    · rw [List.length_range]
theorem cl__law_up {g m p : Int} (h : DA tr sl [.int g, .int m, .int p]) (hp : 0 ≤ m ∧ m < 10000 ∧ 2 ≤ p ∧ p < 10000) : DV (tCall sp__law_up [] E tr) sl (.int (upM g m.toNat p)) := dv_call0 (enc := fun x : Int × Int × Int => [.int x.1, .int x.2.1, .int x.2.2]) (g, m, p) h hp
local macro_rules | `(tactic| walk_at "s") => `(tactic| with_reducible apply cl__law_up)

abbrev s__law_roots : Stmt := topS 74
abbrev N__law_roots : List Str := ["_law_p", "_law_q", "_law_g"]
theorem sc__law_roots : FnScope N__law_roots ["_law_p", "_law_q"] (defScope s__law_roots) := ⟨rfl, rfl, rfl, by decide +kernel, rfl, by decide +kernel, by decide +kernel⟩
def rootsM (p q : Int) : List Int := ((List.range (q - 2).toNat).filter fun (i : Nat) => decide (upM (2 + (i : Int)) p.toNat q = 1)).map fun (i : Nat) => 2 + (i : Int)
def sp__law_roots : Sp := spF (fun x : Int × Int => [.int x.1, .int x.2]) (fun x => 0 ≤ x.1 ∧ x.1 < 10000 ∧ 2 ≤ x.2 ∧ x.2 < 10000) (fun x => dLI (rootsM x.1 x.2))
theorem ok__law_roots (D__law_up : Def P w K mg base "_law_up" ["_law_root", "_law_many_here", "_law_prime"] [] 1 sp__law_up) (B : Blt mg tv) (F : Fun K "_law_roots" "_law_roots" s__law_roots f fd) : FnOk P w K mg base CX0 2 f fd ["_law_p", "_law_q"] sp__law_roots := by
  have nd := sc__law_roots.nd
  refine F.ok (k := 1) sc__law_roots (fun vs H Q E h => spF_len (n:=2) (fun _ => rfl) h) (fun cdv A outer s H vs Q E hr h => ?_)
  refine ⟨_, (pss_one (ps_ret (pe_lc (own := [("_law_g", 2)]) rfl nd (pi_range2 rfl B.range_ (pa_cons pe_int (pa_cons (pv 1) pa_nil))) (blkOk_by (N := N__law_roots) (sc := (defScope s__law_roots)) (by decide +kernel)) (fun _ _ _ _ _ => (pg_name (i := 2) nd rfl (Or.inl rfl))) (fun _ _ _ _ _ => pts_one (pt_cmpR op_eq (pe_def D__law_up (hr.mono (by decide)) (by rfl) (pa_cons (pv 2) (pa_cons (pv 0) (pa_cons (pv 1) pa_nil)))) pe_int (nomark _))) (fun _ _ _ _ _ => (pv 2))))), body_ok (N := N__law_roots) h fun x hp => ?_⟩
  obtain ⟨p, q⟩ := x
  obtain ⟨h1, h2, h3, h4⟩ := hp
  dsimp only at h1 h2 h3 h4
  show DS _ [.d (.int p), .d (.int q), .un] _
  apply ds_ret
  · refine dl_lcE (List.range (q - 2).toNat) (fun i => .int (2 + (i : Int))) (fun i => [(2, .int (2 + (i : Int)))]) (fun (i : Nat) => decide (upM (2 + (i : Int)) p.toNat q = 1)) (fun (i : Nat) => 2 + (i : Int)) D.int (di_rng2 ?_ (by decide) ⟨by omega, by omega⟩) (fun _ _ => dg_name) (fun _ _ => rfl) (fun i _ => ?_) (fun i _ _ => ?_) (by rw [List.length_range]; omega)
    · repeat' walk_at "s"
    · repeat' walk_at "s"
      exact ⟨h1, h2, h3, h4⟩
    · repeat' walk_at "s"
  · rfl
theorem cl__law_roots {p q : Int} (h : DA tr sl [.int p, .int q]) (hp : 0 ≤ p ∧ p < 10000 ∧ 2 ≤ q ∧ q < 10000) : DV (tCall sp__law_roots [] E tr) sl (dLI (rootsM p q)) := dv_call0 (enc := fun x : Int × Int => [.int x.1, .int x.2]) (p, q) h hp
local macro_rules | `(tactic| walk_at "s") => `(tactic| with_reducible apply cl__law_roots)

abbrev s__law_movers : Stmt := topS 77
abbrev N__law_movers : List Str := ["_law_chart_here", "_law_p", "_law_row_here"]
theorem sc__law_movers : FnScope N__law_movers ["_law_chart_here"] (defScope s__law_movers) := ⟨rfl, rfl, rfl, by decide +kernel, rfl, by decide +kernel, by decide +kernel⟩
def sp__law_movers : Sp := spF (fun x : Tab => [dTab x]) WF (fun x => dLI (movers x))
theorem ok__law_movers  (F : Fun K "_law_movers" "_law_movers" s__law_movers f fd) : FnOk P w K mg base CX0 1 f fd ["_law_chart_here"] sp__law_movers := by
  have nd := sc__law_movers.nd
  refine F.ok (k := 0) sc__law_movers (fun vs H Q E h => spF_len (n:=1) (fun _ => rfl) h) (fun cdv A outer s H vs Q E hr h => ?_)
  refine ⟨_, (pss_one (ps_ret (pe_lc (own := [("_law_p", 1), ("_law_row_here", 2)]) rfl nd (pi_tupK K (pe_ix (ix_tupK K) (pv 0) pe_int (fun _ _ => rfl))) (blkOk_by (N := N__law_movers) (sc := (defScope s__law_movers)) (by decide +kernel)) (fun _ _ _ _ _ => (pg_tupK (n := 2) K rfl (pgs_cons (pg_name (i := 1) nd rfl (Or.inl rfl)) (pgs_cons (pg_name (i := 2) nd rfl (Or.inl rfl)) pgs_nil)))) (fun _ _ _ _ _ => pts_nil) (fun _ _ _ _ _ => (pv 1))))), body_ok (N := N__law_movers) h fun x hp => ?_⟩
  show DS _ [.d (dTab x), .un, .un] _
  have := hp.ml
  apply ds_ret
  · refine dl_lcE0 x.2 dMv (fun m => [(1, .int m.1), (2, dRow m.2)]) (·.1) D.int (di_tup (d := .tuf (x.2.map dMv)) ?_ rfl) (fun _ _ => dg_tup rfl (dgs_cons (dgs_cons dgs_nil))) (fun _ _ => rfl) (fun m _ => ?_) (by omega)
    all_goals repeat' walk_at "s"
  · rfl
theorem cl__law_movers {T : Tab} (h : DA tr sl [dTab T]) (hw : WF T) : DV (tCall sp__law_movers [] E tr) sl (dLI (movers T)) := dv_call0 (enc := fun x : Tab => [dTab x]) T h hw
local macro_rules | `(tactic| walk_at "s") => `(tactic| with_reducible apply cl__law_movers)

abbrev s__law_row : Stmt := topS 78
abbrev N__law_row : List Str := ["_law_chart_here", "_law_p", "_law_found", "_law_own", "_law_row_here"]
theorem sc__law_row : FnScope N__law_row ["_law_chart_here", "_law_p"] (defScope s__law_row) := ⟨rfl, rfl, rfl, by decide +kernel, rfl, by decide +kernel, by decide +kernel⟩
theorem row_filter {T : Tab} (h : WF T) {p : Int} (hp : p ∈ movers T) : (T.2.filter fun m => decide (m.1 = p)).map (·.2) = [rowOf T p] := by
  have go : ∀ ms : List (Int × Row), (ms.map (·.1)).Pairwise (· < ·) → p ∈ ms.map (·.1) → ∃ r, (ms.filter fun m => decide (m.1 = p)).map (·.2) = [r] ∧ (ms.find? fun m => decide (m.1 = p)) = some (p, r) := fun ms => by
    induction ms with
    | nil => exact fun _ h => by cases h
    | cons m ms ih =>
      intro hs hm
      rw [List.map_cons, List.pairwise_cons] at hs
      rw [List.filter_cons, List.find?_cons]
      by_cases e : m.1 = p
      · have : ms.filter (fun m => decide (m.1 = p)) = [] := List.filter_eq_nil_iff.mpr fun y hy hc => by
          have := hs.1 y.1 (List.mem_map.mpr ⟨y, hy, rfl⟩)
          have := of_decide_eq_true hc
          omega
        refine ⟨m.2, ?_, ?_⟩
        · rw [if_pos (decide_eq_true e), this] <;> rfl
        · rw [decide_eq_true e, ← e]
      · rw [if_neg (by rw [decide_eq_false e]; exact Bool.false_ne_true), decide_eq_false e]
        refine ih hs.2 ?_
        rcases List.mem_cons.mp hm with q | q
        · exact absurd q.symm e
        · exact q
  obtain ⟨r, h1, h2⟩ := go T.2 h.ms hp
  rw [h1]
  unfold rowOf
  rw [h2] <;> rfl
def sp__law_row : Sp := spF (fun x : Tab × Int => [dTab x.1, .int x.2]) (fun x => WF x.1 ∧ x.2 ∈ movers x.1) (fun x => dRow (rowOf x.1 x.2))
theorem ok__law_row  (F : Fun K "_law_row" "_law_row" s__law_row f fd) : FnOk P w K mg base CX0 1 f fd ["_law_chart_here", "_law_p"] sp__law_row := by
  have nd := sc__law_row.nd
  refine F.ok (k := 0) sc__law_row (fun vs H Q E h => spF_len (n:=2) (fun _ => rfl) h) (fun cdv A outer s H vs Q E hr h => ?_)
  refine ⟨_, (pss_cons (ps_setLc (i := 2) (own := [("_law_own", 3), ("_law_row_here", 4)]) rfl nd rfl rfl (sw_true rfl rfl rfl (by decide +kernel)) (pi_tupK K (pe_ix (ix_tupK K) (pv 0) pe_int (fun _ _ => rfl))) (blkOk_by (N := N__law_row) (sc := (defScope s__law_row)) (by decide +kernel)) (fun _ _ _ _ _ => (pg_tupK (n := 2) K rfl (pgs_cons (pg_name (i := 3) nd rfl (Or.inl rfl)) (pgs_cons (pg_name (i := 4) nd rfl (Or.inl rfl)) pgs_nil)))) (fun _ _ _ _ _ => pts_one (pt_cmpR op_eq (pv 3) (pv 1) (nomark _))) (fun _ _ _ _ _ => (pv 4)))
      (pss_one (ps_ret (pe_ifExp (pt_cmpR (op_neDK K hr.units) (pv 2) (pe_lst pa_nil) (nomark _)) (pe_ix (ix_listK K) (pv 2) pe_int (fun _ _ => rfl)) (pe_tup pa_nil))))), body_ok (N := N__law_row) h fun x hp => ?_⟩
  obtain ⟨T, p⟩ := x
  obtain ⟨hw, hm⟩ := hp
  dsimp only at hw hm
  have := hw.ml
  show DS _ [.d (dTab T), .d (.int p), .un, .un, .un] _
  apply ds_seq
  apply ds_set (d := .lst ([rowOf T p].map dRow))
  · rw [← row_filter hw hm]
    refine dl_lcE T.2 dMv (fun m => [(3, .int m.1), (4, dRow m.2)]) (fun m => decide (m.1 = p)) (·.2) dRow (di_tup (d := .tuf (T.2.map dMv)) ?_ rfl) (fun _ _ => dg_tup rfl (dgs_cons (dgs_cons dgs_nil))) (fun _ _ => rfl) (fun m _ => ?_) (fun m _ _ => ?_) (by omega)
    all_goals repeat' walk_at "s"
  apply ds_ret (d := dRow (rowOf T p))
  · apply dv_if (b := !decide ([rowOf T p] = []))
    · apply dt_test
      apply dv_op
      · exact dv_var rfl
      · exact dv_emp dRow
      · exact ov_neLL eqRow (by decide)
    · intro _
      repeat' walk_at "s"
    · intro hb
      simp at hb
  · rfl
theorem cl__law_row {T : Tab} {p : Int} (h : DA tr sl [dTab T, .int p]) (hp : WF T ∧ p ∈ movers T) : DV (tCall sp__law_row [] E tr) sl (dRow (rowOf T p)) := dv_call0 (enc := fun x : Tab × Int => [dTab x.1, .int x.2]) (T, p) h hp
local macro_rules | `(tactic| walk_at "s") => `(tactic| with_reducible apply cl__law_row)

abbrev s__law_web : Stmt := topS 80
abbrev N__law_web : List Str := ["_law_chart_here", "_law_found", "_law_p", "_law_row_here", "_law_q", "_law_root"]
theorem sc__law_web : FnScope N__law_web ["_law_chart_here"] (defScope s__law_web) := ⟨rfl, rfl, rfl, by decide +kernel, rfl, by decide +kernel, by decide +kernel⟩
def sp__law_web : Sp := spF (fun x : Tab => [dTab x]) WF (fun x => dWeb (web x))
theorem ok__law_web  (B : Blt mg tv) (F : Fun K "_law_web" "_law_web" s__law_web f fd) : FnOk P w K mg base CX0 1 f fd ["_law_chart_here"] sp__law_web := by
  have nd := sc__law_web.nd
  refine F.ok (k := 0) sc__law_web (fun vs H Q E h => spF_len (n:=1) (fun _ => rfl) h) (fun cdv A outer s H vs Q E hr h => ?_)
  refine ⟨_, (pss_cons (ps_set (i := 1) nd rfl (Or.inl rfl) (pe_lst pa_nil))
      (pss_cons (ps_for PassesOwn.never rfl (pi_tupK K (pe_ix (ix_tupK K) (pv 0) pe_int (fun _ _ => rfl))) (pg_tupK (n := 2) K rfl (pgs_cons (pg_name (i := 2) nd rfl (Or.inr rfl)) (pgs_cons (pg_name (i := 3) nd rfl (Or.inl rfl)) pgs_nil))) (pss_one (ps_set (i := 1) nd rfl (Or.inl rfl) (pe_op op_cat (pv 1) (pe_lc (own := [("_law_q", 4), ("_law_root", 5)]) rfl nd (pi_tupK K (pv 3)) (blkOk_by (N := N__law_web) (sc := (defScope s__law_web)) (by decide +kernel)) (fun _ _ _ _ _ => (pg_tupK (n := 2) K rfl (pgs_cons (pg_name (i := 4) nd rfl (Or.inl rfl)) (pgs_cons (pg_name (i := 5) nd rfl (Or.inl rfl)) pgs_nil)))) (fun _ _ _ _ _ => pts_nil) (fun _ _ _ _ _ => (pe_tup (pa_cons (pv 2) (pa_cons (pv 4) pa_nil)))))))))
      (pss_one (ps_ret (pe_callTy (call_tupleK K) (by rfl) B.tuple_ (by decide +kernel) (pa_cons (pv 1) pa_nil)))))), body_ok (N := N__law_web) h fun x hp => ?_⟩
  show DS _ [.d (dTab x), .un, .un, .un, .un, .un] _
  apply ds_seq
  apply ds_set (d := .lst ((web (x.1, x.2.take 0)).map dPr))
  · exact dv_emp dPr
  apply ds_seq
  refine ds_for x.2 dMv (fun m => [(2, .int m.1), (3, dRow m.2)]) (fun i s => ∃ a b c e, s = [.d (dTab x), .d (.lst ((web (x.1, x.2.take i)).map dPr)), a, b, c, e]) (di_tup (d := .tuf (x.2.map dMv)) ?_ rfl) (fun _ _ => dg_tup rfl (dgs_cons (dgs_cons dgs_nil))) ⟨_, _, _, _, rfl⟩ ?_ ?_
  · repeat' walk_at "s"
  · rintro i m s hi ⟨a, b, c, e, rfl⟩
    have wl := web_cut hp i
    have rl := (hp.mv m (mem_at hi)).ln
    apply ds_set (d := .lst ((web (x.1, x.2.take (i + 1))).map dPr))
    · rw [web_take hi, List.map_append]
      apply dv_op
      · repeat' walk_at "s"
      · refine dl_lcE0 m.2 dPr (fun e => [(4, .int e.1), (5, .int e.2)]) (fun q => (m.1, q.1)) dPr (di_tup (d := dRow m.2) ?_ rfl) (fun _ _ => dg_tup rfl (dgs_cons (dgs_cons dgs_nil))) (fun _ _ => rfl) (fun m _ => ?_) (by omega)
        all_goals repeat' walk_at "s"
      · exact (ol_cat (by rw [List.length_map, List.length_map, List.length_map]; omega)).v
    · exact ⟨_, _, _, _, rfl⟩
  · rintro s ⟨a, b, c, e, rfl⟩
    rw [List.take_length]
    apply ds_ret
    · repeat' walk_at "s"
    · rfl
theorem cl__law_web {T : Tab} (h : DA tr sl [dTab T]) (hw : WF T) : DV (tCall sp__law_web [] E tr) sl (dWeb (web T)) := dv_call0 (enc := fun x : Tab => [dTab x]) T h hw
local macro_rules | `(tactic| walk_at "s") => `(tactic| with_reducible apply cl__law_web)

abbrev s__law_power_between : Stmt := topS 79
abbrev N__law_power_between : List Str := ["_law_one", "_law_two", "_law_p", "_law_row_here", "_law_late", "_law_q", "_law_root", "_law_some", "_law_k"]
theorem sc__law_power_between : FnScope N__law_power_between ["_law_one", "_law_two", "_law_p"] (defScope s__law_power_between) := ⟨rfl, rfl, rfl, by decide +kernel, rfl, by decide +kernel, by decide +kernel⟩
def oddM (T R : Tab) (p : Int) (k : Int) : List Int := ((rowOf T p).filter fun e => !decide (upM (rootOf R p e.1) k.toNat e.1 = e.2)).map (·.1)
def pbKs (T R : Tab) (p : Int) : List Int := ((List.range (p - 1).toNat).filter fun (i : Nat) => decide (oddM T R p (1 + (i : Int)) = [])).map fun (i : Nat) => 1 + (i : Int)
def pbM (T R : Tab) (p : Int) : Option Int := (pbKs T R p).head?
def sp__law_power_between : Sp := spF (fun x : Tab × Tab × Int => [dTab x.1, dTab x.2.1, .int x.2.2]) (fun x => WF x.1 ∧ WF x.2.1 ∧ x.2.2 ∈ movers x.1 ∧ web x.1 = web x.2.1) (fun x => dOpt (pbM x.1 x.2.1 x.2.2))
theorem web_rows {T R : Tab} (hw : WF T) (hv : WF R) (e : web T = web R) {p : Int} (hp : p ∈ movers T) : p ∈ movers R ∧ (rowOf T p).map (·.1) = (rowOf R p).map (·.1) := by
  have key : ∀ {T : Tab}, WF T → ∀ p, p ∈ movers T → (rowOf T p).map (·.1) = ((web T).filter fun e => decide (e.1 = p)).map (·.2) := fun {T} hw p hp => by
    have go : ∀ ms : List (Int × Row), ((ms.flatMap fun m => m.2.map fun q => (m.1, q.1)).filter fun e : Pr => decide (e.1 = p)).map (·.2) = ((ms.filter fun m => decide (m.1 = p)).map (·.2)).flatMap fun r => r.map (·.1) := fun ms => by
      induction ms with
      | nil => rfl
      | cons m ms ih =>
        rw [List.flatMap_cons, List.filter_append, List.map_append, ih, List.filter_cons, List.filter_map, List.map_map]
        by_cases h : m.1 = p
        · rw [if_pos (decide_eq_true h), List.map_cons, List.flatMap_cons]
          congr 1
          rw [(show ((fun e : Pr => decide (e.1 = p)) ∘ fun q : Pr => (m.1, q.1)) = fun _ => true from funext fun _ => decide_eq_true h), List.filter_eq_self.mpr (fun _ _ => rfl)] <;> rfl
        · rw [if_neg (by rw [decide_eq_false h]; exact Bool.false_ne_true), (show ((fun e : Pr => decide (e.1 = p)) ∘ fun q : Pr => (m.1, q.1)) = fun _ => false from funext fun _ => decide_eq_false h)]
          simp
    unfold web
    rw [go T.2, row_filter hw hp, List.flatMap_cons, List.flatMap_nil, List.append_nil]
  have hr : p ∈ movers R := by
    have w := row_wf hw hp
    obtain ⟨a, as, ha⟩ := List.exists_cons_of_ne_nil w.ne
    have : (p, a.1) ∈ web T := mem_web.mpr ⟨_, rowOf_mem hp, a, by rw [ha]; exact List.mem_cons_self, rfl⟩
    rw [e] at this
    exact web_mover this
  exact ⟨hr, by rw [key hw p hp, key hv p hr, e]⟩
theorem ok__law_power_between (D__law_row : Def P w K mg base "_law_row" ["_law_chart_here", "_law_p"] [] 1 sp__law_row) (D__law_up : Def P w K mg base "_law_up" ["_law_root", "_law_many_here", "_law_prime"] [] 1 sp__law_up) (B : Blt mg tv) (F : Fun K "_law_power_between" "_law_power_between" s__law_power_between f fd) : FnOk P w K mg base CX0 2 f fd ["_law_one", "_law_two", "_law_p"] sp__law_power_between := by
  have nd := sc__law_power_between.nd
  refine F.ok (k := 1) sc__law_power_between (fun vs H Q E h => spF_len (n:=3) (fun _ => rfl) h) (fun cdv A outer s H vs Q E hr h => ?_)
  refine ⟨_, (pss_cons (ps_asg (pe_tup (pa_cons (pe_def D__law_row (hr.mono (by decide)) (by rfl) (pa_cons (pv 0) (pa_cons (pv 2) pa_nil))) (pa_cons (pe_callTy (call_dictTK K rfl) (by rfl) B.dict_ (by decide +kernel) (pa_cons (pe_def D__law_row (hr.mono (by decide)) (by rfl) (pa_cons (pv 1) (pa_cons (pv 2) pa_nil))) pa_nil)) pa_nil))) (pg_tupK (n := 2) K rfl (pgs_cons (pg_name (i := 3) nd rfl (Or.inr rfl)) (pgs_cons (pg_name (i := 4) nd rfl (Or.inr rfl)) pgs_nil))))
      (pss_cons (ps_if (pt_cmpR (op_neDK K hr.units) (pe_lc (own := [("_law_q", 5), ("_law_root", 6)]) rfl nd (pi_tupK K (pv 3)) (blkOk_by (N := N__law_power_between) (sc := (defScope s__law_power_between)) (by decide +kernel)) (fun _ _ _ _ _ => (pg_tupK (n := 2) K rfl (pgs_cons (pg_name (i := 5) nd rfl (Or.inl rfl)) (pgs_cons (pg_name (i := 6) nd rfl (Or.inl rfl)) pgs_nil)))) (fun _ _ _ _ _ => pts_nil) (fun _ _ _ _ _ => (pv 5))) (pe_callB (call_sortedDI rfl) (by rfl) B.sorted_ (by decide +kernel) (pa_cons (pv 4) pa_nil)) (nomark _)) (pss_one (ps_ret pe_non)) pss_nil)
      (pss_cons (ps_setLc (i := 7) (own := [("_law_k", 8)]) rfl nd rfl rfl (sw_true rfl rfl rfl (by decide +kernel)) (pi_range2 rfl B.range_ (pa_cons pe_int (pa_cons (pv 2) pa_nil))) (blkOk_by (N := N__law_power_between) (sc := (defScope s__law_power_between)) (by decide +kernel)) (fun _ _ _ _ _ => (pg_name (i := 8) nd rfl (Or.inr rfl))) (fun _ _ _ _ _ => pts_one (pt_cmpR (op_eqDK K hr.units) (pe_lc (own := [("_law_q", 5), ("_law_root", 6)]) rfl nd (pi_tupK K (pv 3)) (blkOk_by (N := N__law_power_between) (sc := (relS _ (defScope s__law_power_between))) (by decide +kernel)) (fun _ _ _ _ _ => (pg_tupK (n := 2) K rfl (pgs_cons (pg_name (i := 5) nd rfl (Or.inl rfl)) (pgs_cons (pg_name (i := 6) nd rfl (Or.inl rfl)) pgs_nil)))) (fun _ _ _ _ _ => pts_one (pt_cmpR op_ne (pe_def D__law_up (hr.mono (by decide)) (by rfl) (pa_cons (pe_dget (hu_of hr) (pv 4) (pv 5) (fun _ _ => rfl)) (pa_cons (pv 8) (pa_cons (pv 5) pa_nil)))) (pv 6) (nomark _))) (fun _ _ _ _ _ => (pv 5))) (pe_lst pa_nil) (nomark _))) (fun _ _ _ _ _ => (pv 8)))
      (pss_one (ps_ret (pe_ifExp (pt_cmpR (op_neDK K hr.units) (pv 7) (pe_lst pa_nil) (nomark _)) (pe_ix (ix_listK K) (pv 7) pe_int (fun _ _ => rfl)) pe_non)))))), body_ok (N := N__law_power_between) h fun x hp => ?_⟩
  obtain ⟨T, R, p⟩ := x
  obtain ⟨hw, hv, hm, hwe⟩ := hp
  dsimp only at hw hv hm hwe
  obtain ⟨hmr, hqs⟩ := web_rows hw hv hwe hm
  have p2 := ps_of hw (mover_in hw hm)
  have wt := row_wf hw hm
  have wr := row_wf hv hmr
  have l1 := wt.ln
  have l2 := wr.ln
  dsimp only at l1 l2
  show DS _ [.d (dTab T), .d (dTab R), .d (.int p), .un, .un, .un, .un, .un, .un] _
  have hr2 : mergeD [] (rowD (rowOf R p)) = rowD (rowOf R p) := mergeD_self (by
    unfold rowD
    rw [List.map_map]
    exact wr.so)
  have keys : (rowD (rowOf R p)).map (·.1) = (rowOf R p).map (·.1) := by
    unfold rowD
    rw [List.map_map] <;> rfl
  apply ds_seq
  apply ds_asg (d := .tup [dRow (rowOf T p), .dic (rowD (rowOf R p))]) (us := [(3, dRow (rowOf T p)), (4, .dic (rowD (rowOf R p)))])
  · apply dv_tup2
    · apply cl__law_row
      · repeat' walk_at "s"
      · exact ⟨hw, hm⟩
    · rw [← hr2]
      apply dv_cb
      · apply da_cons
        · apply cl__law_row (T := R) (p := p)
          · repeat' walk_at "s"
          · exact ⟨hv, hmr⟩
        · exact da_nil
      · exact (cm_dictTK (xs := rowOf R p) dPr (·.1) (fun e => .int e.2) (fun _ => rfl)).v
  · exact dg_tup rfl (dgs_cons (dgs_cons dgs_nil))
  apply ds_seq
  apply ds_if (b := !decide ((rowOf T p).map (·.1) = (rowOf R p).map (·.1)))
  · apply dt_test
    apply dv_op
    · refine dl_lcE0 (rowOf T p) dPr (fun e => [(5, .int e.1), (6, .int e.2)]) (·.1) D.int (di_tup (d := dRow (rowOf T p)) ?_ rfl) (fun _ _ => dg_tup rfl (dgs_cons (dgs_cons dgs_nil))) (fun _ _ => rfl) (fun m _ => ?_) (by omega)
      all_goals repeat' walk_at "s"
    · apply dv_cb
      · repeat' walk_at "s"
      · refine cv_cast (cl_sortD (ks := rowD (rowOf R p)) (by rw [keys]; exact wr.so) (by unfold rowD; rw [List.length_map]; omega)).v (g := dLI ((rowOf R p).map (·.1))) ?_
        rw [keys]
    · exact ov_neLL eqInt (by decide)
  · intro hb
    rw [decide_eq_true hqs] at hb
    cases hb
  intro _
  apply ds_nx
  apply ds_seq
  apply ds_set (d := .lst ((pbKs T R p).map D.int))
  · refine dl_lcE (List.range (p - 1).toNat) (fun i => .int (1 + (i : Int))) (fun i => [(8, .int (1 + (i : Int)))]) (fun (i : Nat) => decide (oddM T R p (1 + (i : Int)) = [])) (fun (i : Nat) => 1 + (i : Int)) D.int (di_rng2 ?_ (by decide) ⟨by omega, by omega⟩) (fun _ _ => dg_name) (fun _ _ => rfl) (fun i hi => ?_) (fun i _ _ => ?_) (by rw [List.length_range]; omega)
    · repeat' walk_at "s"
    · have hi := List.mem_range.mp hi
      apply dt_test
      apply dv_op
      · refine dl_lcE (rowOf T p) dPr (fun e => [(5, .int e.1), (6, .int e.2)]) (fun e => !decide (upM (rootOf R p e.1) (1 + (i : Int)).toNat e.1 = e.2)) (·.1) D.int (di_tup (d := dRow (rowOf T p)) ?_ rfl) (fun _ _ => dg_tup rfl (dgs_cons (dgs_cons dgs_nil))) (fun _ _ => rfl) (fun e he => ?_) (fun e _ _ => ?_) (by omega)
        · repeat' walk_at "s"
        · have e2 := ps_of hw (wt.ed e he).1
          have hweb : (p, e.1) ∈ web R := by
            rw [← hwe]
            exact mem_web.mpr ⟨_, rowOf_mem hm, e, he, rfl⟩
          apply dt_test
          apply dv_op
          · apply cl__law_up
            · apply da_cons
              · exact dv_dget (ds := rowD (rowOf R p)) (k := e.1) (dv_var rfl) (dv_var rfl) (row_at hv hweb)
              · repeat' walk_at "s"
            · exact ⟨by omega, by omega, by omega, by omega⟩
          · repeat' walk_at "s"
          · exact ov_neI
        · repeat' walk_at "s"
      · exact dv_emp D.int
      · exact ov_eqLL eqInt (by decide)
    · repeat' walk_at "s"
  apply ds_ret (d := dOpt (pbM T R p))
  · apply dv_if (b := !decide (pbKs T R p = []))
    · apply dt_test
      apply dv_op
      · exact dv_var rfl
      · exact dv_emp D.int
      · exact ov_neLL eqInt (by decide)
    · intro hb
      unfold pbM
      cases hk : pbKs T R p with
      | nil =>
        rw [hk] at hb
        cases hb
      | cons k ks =>
        apply dv_op
        · exact dv_var rfl
        · exact dv_int
        · exact ov_ixL (atI_nat (i := 0) rfl)
    · intro hb
      have : pbKs T R p = [] := by simpa using hb
      unfold pbM
      rw [this]
      exact dv_non
  · rfl
theorem cl__law_power_between {T R : Tab} {p : Int} (h : DA tr sl [dTab T, dTab R, .int p]) (hp : WF T ∧ WF R ∧ p ∈ movers T ∧ web T = web R) : DV (tCall sp__law_power_between [] E tr) sl (dOpt (pbM T R p)) := dv_call0 (enc := fun x : Tab × Tab × Int => [dTab x.1, dTab x.2.1, .int x.2.2]) (T, R, p) h hp
local macro_rules | `(tactic| walk_at "s") => `(tactic| with_reducible apply cl__law_power_between)

abbrev s__law_are_alike : Stmt := topS 81
abbrev N__law_are_alike : List Str := ["_law_one", "_law_two", "_law_p"]
theorem sc__law_are_alike : FnScope N__law_are_alike ["_law_one", "_law_two"] (defScope s__law_are_alike) := ⟨rfl, rfl, rfl, by decide +kernel, rfl, by decide +kernel, by decide +kernel⟩
def aliL (T R : Tab) : Bool := if T.1 ≠ R.1 ∨ web T ≠ web R then false else decide (((movers T).filter fun p => (dOpt (pbM T R p)).isN) = [])
def sp__law_are_alike : Sp := spF (fun x : Tab × Tab => [dTab x.1, dTab x.2]) (fun x => WF x.1 ∧ WF x.2) (fun x => .bl (aliL x.1 x.2))
theorem ok__law_are_alike (D__law_web : Def P w K mg base "_law_web" ["_law_chart_here"] [] 1 sp__law_web) (D__law_movers : Def P w K mg base "_law_movers" ["_law_chart_here"] [] 1 sp__law_movers) (D__law_power_between : Def P w K mg base "_law_power_between" ["_law_one", "_law_two", "_law_p"] [] 2 sp__law_power_between) (F : Fun K "_law_are_alike" "_law_are_alike" s__law_are_alike f fd) : FnOk P w K mg base CX0 3 f fd ["_law_one", "_law_two"] sp__law_are_alike := by
  have nd := sc__law_are_alike.nd
  refine F.ok (k := 2) sc__law_are_alike (fun vs H Q E h => spF_len (n:=2) (fun _ => rfl) h) (fun cdv A outer s H vs Q E hr h => ?_)
  refine ⟨_, (pss_cons (ps_if (PW.pt (pw_or (pt_cmpR (op_neDK K hr.units) (pe_ix (ix_tupK K) (pv 0) pe_int (fun _ _ => rfl)) (pe_ix (ix_tupK K) (pv 1) pe_int (fun _ _ => rfl)) (nomark _)) (pw_or1 (pt_cmpR (op_neDK K hr.units) (pe_def D__law_web (hr.mono (by decide)) (by rfl) (pa_cons (pv 0) pa_nil)) (pe_def D__law_web (hr.mono (by decide)) (by rfl) (pa_cons (pv 1) pa_nil)) (nomark _))))) (pss_one (ps_ret pe_bl)) pss_nil)
      (pss_one (ps_ret (pe_cmpR (op_eqDK K hr.units) (pe_lc (own := [("_law_p", 2)]) rfl nd (pi_listK K (pe_def D__law_movers (hr.mono (by decide)) (by rfl) (pa_cons (pv 0) pa_nil))) (blkOk_by (N := N__law_are_alike) (sc := (defScope s__law_are_alike)) (by decide +kernel)) (fun _ _ _ _ _ => (pg_name (i := 2) nd rfl (Or.inl rfl))) (fun _ _ _ _ _ => pts_one (pt_cmpR op_isN (pe_def D__law_power_between (hr.mono (by decide)) (by rfl) (pa_cons (pv 0) (pa_cons (pv 1) (pa_cons (pv 2) pa_nil)))) pe_non (nomark _))) (fun _ _ _ _ _ => (pv 2))) (pe_lst pa_nil) (nomark _))))), body_ok (N := N__law_are_alike) h fun x hp => ?_⟩
  obtain ⟨T, R⟩ := x
  obtain ⟨hw, hv⟩ := hp
  dsimp only at hw hv
  show DS _ [.d (dTab T), .d (dTab R), .un] _
  have h1 := hw.ml
  apply ds_seq
  apply ds_if (b := (!decide (T.1 = R.1)) || (!decide (web T = web R)))
  · apply dt_or
    · repeat' walk_at "s"
      exact ov_neT eqInt (by decide) rfl rfl
    · intro _
      repeat' walk_at "s"
      exact ov_neT eqPr (by decide) rfl rfl
  · intro hb
    apply ds_ret
    · repeat' walk_at "s"
    · show D.bl false = D.bl (aliL T R)
      unfold aliL
      rw [if_pos (by simpa using hb)]
  · intro hb
    apply ds_nx
    have he : T.1 = R.1 ∧ web T = web R := by simpa using hb
    apply ds_ret
    · apply dv_op
      · refine dl_lcE (movers T) D.int (fun m => [(2, .int m)]) (fun p => (dOpt (pbM T R p)).isN) id D.int (di_list ?_) (fun _ _ => dg_name) (fun _ _ => rfl) (fun m hm => ?_) (fun m hm _ => ?_) (by unfold movers; rw [List.length_map]; omega)
        · repeat' walk_at "s"
        · repeat' walk_at "s"
          exact ⟨hw, hv, hm, he.2⟩
        · repeat' walk_at "s"
      · exact dv_emp D.int
      · exact ov_eqLL eqInt (by decide)
    · show D.bl _ = D.bl (aliL T R)
      unfold aliL
      rw [if_neg (by simpa using hb), List.map_id]
theorem cl__law_are_alike {T R : Tab} (h : DA tr sl [dTab T, dTab R]) (hp : WF T ∧ WF R) : DV (tCall sp__law_are_alike [] E tr) sl (.bl (aliL T R)) := dv_call0 (enc := fun x : Tab × Tab => [dTab x.1, dTab x.2]) (T, R) h hp
local macro_rules | `(tactic| walk_at "s") => `(tactic| with_reducible apply cl__law_are_alike)
end
end Wa
set_option maxHeartbeats 4000000
namespace Wa
open PySem PySem.Spec PyProof.Rows L2
local macro_rules | `(tactic| walk_at "s") => `(tactic| first
  | with_reducible exact dv_int | with_reducible exact dv_bl | with_reducible exact dv_str | with_reducible exact dv_non
  | ((with_reducible apply dv_var); first | rfl | (show _ = _; assumption))
  | with_reducible apply dv_op
  | with_reducible apply da_cons | with_reducible exact da_nil
  | with_reducible apply dv_tup2 | with_reducible apply dv_tup1 | with_reducible apply dv_tup3 | with_reducible exact dv_tup0
  | with_reducible apply dv_isN | with_reducible apply dv_notN
  | with_reducible apply dt_test | with_reducible apply dt_B | with_reducible exact dt_yes
  | with_reducible apply (dt_and ?_ fun _ => ?_) | with_reducible apply (dt_or ?_ fun _ => ?_) | with_reducible apply dt_not
  | with_reducible apply (dv_and ?_ fun _ => ?_) | with_reducible apply dv_not
  | with_reducible apply (dv_chain (g := D.non) ?_ ?_ ?_ (fun _ => ?_) (fun _ => ?_))
  | with_reducible exact ov_I0 | with_reducible exact ov_B0 | ((with_reducible apply ov_I); first | (show 0 < _; omega) | (unfold CDiv; omega) | (unfold CMul; omega) | (unfold CDivN; omega) | skip)
  | with_reducible exact ov_eqI | with_reducible exact ov_neI | with_reducible exact ov_eqB | with_reducible exact ov_eqS | with_reducible exact ov_notB
  | with_reducible exact ov_isN | with_reducible exact ov_notN
  | with_reducible apply dv_neg
  | with_reducible apply dv_isInt | with_reducible apply dv_isBool
  | with_reducible apply dv_cb
  | (with_reducible exact cv_tupleK) | (with_reducible exact cv_tupF) | (with_reducible exact cv_intK) | (with_reducible exact cv_sum) | (with_reducible exact cv_all) | (with_reducible exact cv_any) | ((with_reducible apply cv_lenK); rfl)
  | (exact ov_ixT rfl rfl) | (exact ov_ixL rfl)
  | with_reducible apply dv_din | with_reducible apply dv_dnotin
  | (show D.items _ = some _; rfl) | (show D.seq _ = some _; rfl) | ((show WF _); assumption))
local macro_rules | `(tactic| walk_at "s") => `(tactic| first | with_reducible apply cl_power_in | with_reducible apply cl_size_in | with_reducible apply cl_weight_of | with_reducible apply cl_rows_in | with_reducible apply cl_web_in | with_reducible apply cl_movers_in | with_reducible apply cl_moved_in | with_reducible apply cl_still_in | with_reducible apply cl_moved_by | with_reducible apply cl_movers_on | with_reducible apply cl_struck_by | with_reducible apply cl_subsets_of | with_reducible apply cl_cut_in | with_reducible apply cl_log_in | with_reducible apply cl_row_power | with_reducible apply cl_power_in_rows | with_reducible apply cl_alike_in | with_reducible apply cl_is_undivided | with_reducible apply cl_is_whole_number | with_reducible apply cl_is_count | with_reducible apply cl_is_small_prime | with_reducible apply cl_is_pair | with_reducible apply cl_are_rising | with_reducible apply cl_are_primes_among | with_reducible apply cl_prime_fault | with_reducible apply cl_move_fault | with_reducible apply cl_row_fault | with_reducible apply cl_table_fault | with_reducible apply cl_want2 | with_reducible apply cl_want_table1 | with_reducible apply cl_want_table2 | with_reducible apply cl_want_primes2 | with_reducible apply cl_want_both | with_reducible apply cl_are_alike | with_reducible apply cl_moved_out | with_reducible apply cl_parts_in | with_reducible apply cl_part_count | with_reducible apply cl_is_like_part | with_reducible apply cl_alike_parts_in | with_reducible apply cl_parts_alike | with_reducible apply cl_cut_to | with_reducible apply cl_other_moved | with_reducible apply cl_twisted_in | with_reducible apply cl_twisted_count | with_reducible apply cl__law_up | with_reducible apply cl__law_roots | with_reducible apply cl__law_movers | with_reducible apply cl__law_row | with_reducible apply cl__law_web | with_reducible apply cl__law_power_between | with_reducible apply cl__law_are_alike )
theorem un65 {k : Nat} {A : Around} (hr : Room k A) : A.units + 65 < cLine := by
  have := hr.un
  omega
theorem pe_tixK (K : PySem.W.Frag) {X : Cx} {o e : Expr} {to te : TE} {apos cpos : Pos} (p : PE X (.Call (.Attribute o "index" apos) [e] [] cpos) (tTix X.K to te)) (h : X.K = K := by rfl) : PE X (.Call (.Attribute o "index" apos) [e] [] cpos) (tTix K to te) := h ▸ p
section
variable {P : Program} {w : World} {K : PySem.W.Frag} {mg : Str → Option Value} {base : Heap} {f : Addr} {fd : FuncData} {tv : Value} {sl : List Sl} {tr : TA} {E : XK}

abbrev s__law_cut : Stmt := topS 82
abbrev N__law_cut : List Str := ["_law_chart_here", "_law_some", "_law_rows", "_law_p", "_law_row_here", "_law_left", "_law_pair"]
theorem sc__law_cut : FnScope N__law_cut ["_law_chart_here", "_law_some"] (defScope s__law_cut) := ⟨rfl, rfl, rfl, by decide +kernel, rfl, by decide +kernel, by decide +kernel⟩
def sp__law_cut : Sp := spF (fun x : Tab × D × List Int => [dTab x.1, x.2.1]) (fun x => WF x.1 ∧ x.2.1.items = some (x.2.2.map D.int)) (fun x => dTab (cut x.1 x.2.2))
theorem ok__law_cut  (B : Blt mg tv) (F : Fun K "_law_cut" "_law_cut" s__law_cut f fd) : FnOk P w K mg base CX0 1 f fd ["_law_chart_here", "_law_some"] sp__law_cut := by
  have nd := sc__law_cut.nd
  refine F.ok (k := 0) sc__law_cut (fun vs H Q E h => spF_len (n:=2) (fun _ => rfl) h) (fun cdv A outer s H vs Q E hr h => ?_)
  refine ⟨_, (pss_cons (ps_set (i := 2) nd rfl (Or.inl rfl) (pe_lst pa_nil))
      (pss_cons (ps_for PassesOwn.never rfl (pi_tupK K (pe_ix (ix_tupK K) (pv 0) pe_int (fun _ _ => rfl))) (pg_tupK (n := 2) K rfl (pgs_cons (pg_name (i := 3) nd rfl (Or.inl rfl)) (pgs_cons (pg_name (i := 4) nd rfl (Or.inl rfl)) pgs_nil))) (pss_cons (ps_set (i := 5) nd rfl (Or.inl rfl) (pe_callTy (call_tupFK K) (by rfl) B.tuple_ (by decide +kernel) (pa_cons (pe_lc (own := [("_law_pair", 6)]) rfl nd (pi_tupK K (pv 4)) (blkOk_by (N := N__law_cut) (sc := (defScope s__law_cut)) (by decide +kernel)) (fun _ _ _ _ _ => (pg_name (i := 6) nd rfl (Or.inl rfl))) (fun _ _ _ _ _ => pts_one (pt_cmpR (op_inK K) (pe_ix (ix_tupK K) (pv 6) pe_int (fun _ _ => rfl)) (pv 1) (rfl))) (fun _ _ _ _ _ => (pv 6))) pa_nil)))
      (pss_one (ps_if (PW.pt (pw_and (pt_cmpR (op_inK K) (pv 3) (pv 1) (rfl)) (pw_and1 (pt_cmpR (op_neDK K hr.units) (pv 5) (pe_tup pa_nil) (nomark _))))) (pss_one (ps_expr (pe_bm PySem.F.plainAttrs_list PySem.F.slot_list_append PySem.F.type_list_append mt_append (pv 2) (pa_cons (pe_tup (pa_cons (pv 3) (pa_cons (pv 5) pa_nil))) pa_nil)))) pss_nil))))
      (pss_one (ps_ret (pe_tup (pa_cons (pe_callTy (call_tupFK K) (by rfl) B.tuple_ (by decide +kernel) (pa_cons (pe_lc (own := [("_law_p", 3)]) rfl nd (pi_tupK K (pe_ix (ix_tupK K) (pv 0) pe_int (fun _ _ => rfl))) (blkOk_by (N := N__law_cut) (sc := (defScope s__law_cut)) (by decide +kernel)) (fun _ _ _ _ _ => (pg_name (i := 3) nd rfl (Or.inl rfl))) (fun _ _ _ _ _ => pts_one (pt_cmpR (op_inK K) (pv 3) (pv 1) (rfl))) (fun _ _ _ _ _ => (pv 3))) pa_nil)) (pa_cons (pe_callTy (call_tupFK K) (by rfl) B.tuple_ (by decide +kernel) (pa_cons (pv 2) pa_nil)) pa_nil))))))), body_ok (N := N__law_cut) h fun x hp => ?_⟩
  obtain ⟨T, d, s⟩ := x
  obtain ⟨hw, hs⟩ := hp
  have hw : WF T := hw
  have hs : d.items = some (s.map D.int) := hs
  have hq := items_seq hs
  show DS _ [.d (dTab T), .d d, .un, .un, .un, .un, .un] _
  have h1 := hw.pl
  have h2 := hw.ml
  apply ds_seq
  apply ds_asgL (xs := (cutRows (T.2.take 0) s).map dMv)
  · exact (show DL _ _ [] from dl_lst da_nil)
  apply ds_seq
  refine ds_for T.2 dMv (fun m => [(3, .int m.1), (4, dRow m.2)]) (fun i t => ∃ a b c, t = [.d (dTab T), .d d, .ml ((cutRows (T.2.take i) s).map dMv), a, b, c, .un]) (di_tup (d := .tuf (T.2.map dMv)) ?_ rfl) (fun _ _ => dg_tup rfl (dgs_cons (dgs_cons dgs_nil))) ⟨_, _, _, rfl⟩ ?_ ?_
  · repeat' walk_at "s"
  · rintro i m t hi ⟨a, b, c, rfl⟩
    have rl := (hw.mv m (mem_at hi)).ln
    have cl : (cutRows (T.2.take i) s).length ≤ 5 := by
      have := List.length_filter_le (fun m : Int × Row => decide (m.1 ∈ s) && !decide (m.2 = [])) ((T.2.take i).map fun m => (m.1, m.2.filter fun e => decide (e.1 ∈ s)))
      rw [List.length_map, List.length_take] at this
      unfold cutRows
      omega
    apply ds_seq
    apply ds_set (d := dRow (m.2.filter fun e => decide (e.1 ∈ s)))
    · apply dv_cb
      · apply da_cons
        · refine dl_lcE m.2 dPr (fun e => [(6, dPr e)]) (fun e => decide (e.1 ∈ s)) id dPr (di_tup (d := dRow m.2) ?_ rfl) (fun _ _ => dg_name) (fun _ _ => rfl) (fun e _ => ?_) (fun p _ _ => ?_) (by omega)
          · repeat' walk_at "s"
          · repeat' walk_at "s"
            exact ov_in hq
          · repeat' walk_at "s"
        · exact da_nil
      · rw [List.map_id]
        exact cv_tupF
    apply ds_if
    · apply dt_and (a := decide (m.1 ∈ s)) (b := !decide ((m.2.filter fun e => decide (e.1 ∈ s)) = []))
      · repeat' walk_at "s"
        exact ov_in hq
      · intro _
        repeat' walk_at "s"
        exact ov_neT eqPr (by decide) rfl rfl
    · intro hb
      apply ds_app (xs := (cutRows (T.2.take i) s).map dMv) rfl
      · repeat' walk_at "s"
      · rw [List.length_map]
        omega
      · exact ⟨_, _, _, by rw [take_snoc hi, cutRows_snoc, if_pos hb, List.map_append] <;> rfl⟩
    · intro hb
      apply ds_nx
      exact ⟨_, _, _, by rw [take_snoc hi, cutRows_snoc, if_neg (by rw [hb]; exact Bool.false_ne_true), List.append_nil] <;> rfl⟩
  · rintro t ⟨a, b, c, rfl⟩
    refine ds_frz 2 rfl ?_
    apply ds_ret
    · apply dv_tup2
      · apply dv_cb
        · apply da_cons
          · refine dl_lcE T.1 D.int (fun e => [(3, .int e)]) (fun e => decide (e ∈ s)) id D.int (di_tup (d := dFI T.1) ?_ rfl) (fun _ _ => dg_name) (fun _ _ => rfl) (fun e _ => ?_) (fun p _ _ => ?_) (by omega)
            · repeat' walk_at "s"
            · repeat' walk_at "s"
              exact ov_in hq
            · repeat' walk_at "s"
          · exact da_nil
        · exact cv_tupF
      · repeat' walk_at "s"
    · rw [List.map_id, List.take_length] <;> rfl
theorem cl__law_cut {T : Tab} {d : D} {s : List Int} (h : DA tr sl [dTab T, d]) (hw : WF T) (hs : d.items = some (s.map D.int)) : DV (tCall sp__law_cut [] E tr) sl (dTab (cut T s)) := dv_call0 (enc := fun x : Tab × D × List Int => [dTab x.1, x.2.1]) (T, d, s) h ⟨hw, hs⟩
local macro_rules | `(tactic| walk_at "s") => `(tactic| with_reducible apply cl__law_cut)

abbrev s__law_threes : Stmt := topS 85
abbrev N__law_threes : List Str := ["_law_chart_here", "_law_rival", "_law_found", "_law_some", "_law_p", "_law_early", "_law_own", "_law_both"]
theorem sc__law_threes : FnScope N__law_threes ["_law_chart_here", "_law_rival"] (defScope s__law_threes) := ⟨rfl, rfl, rfl, by decide +kernel, rfl, by decide +kernel, by decide +kernel⟩
def sub3 (ns : List Int) : List (List Int) := ns.foldl (fun acc p => acc ++ (acc.filter fun s => decide (s.length < 3)).map (· ++ [p])) [[]]
theorem sub3_snoc (ns : List Int) (n : Int) : sub3 (ns ++ [n]) = sub3 ns ++ ((sub3 ns).filter fun s => decide (s.length < 3)).map (· ++ [n]) := List.foldl_append ..
theorem sub3_sub : ∀ (ns : List Int), ∀ s ∈ sub3 ns, s.Sublist ns := fun ns => by
  have go : ∀ (ns pre : List Int) (acc : List (List Int)), (∀ s ∈ acc, s.Sublist pre) → ∀ s ∈ ns.foldl (fun acc p => acc ++ (acc.filter fun s => decide (s.length < 3)).map (· ++ [p])) acc, s.Sublist (pre ++ ns) := fun ns => by
    induction ns with
    | nil => exact fun pre acc h s hs => by rw [List.append_nil]; exact h s hs
    | cons n ns ih =>
      intro pre acc h s hs
      have := ih (pre ++ [n]) (acc ++ (acc.filter fun s => decide (s.length < 3)).map (· ++ [n])) (fun s hs => by
        rcases List.mem_append.mp hs with q | q
        · exact (h s q).trans (List.sublist_append_left _ _)
        · obtain ⟨t, ht, rfl⟩ := List.mem_map.mp q
          exact (h t (List.mem_filter.mp ht).1).append (List.Sublist.refl _)) s hs
      rwa [List.append_assoc, List.singleton_append] at this
  exact go ns [] [[]] (fun s hs => by rw [List.mem_singleton.mp hs]; exact List.Sublist.refl _)
theorem sub3_len : ∀ ns : List Int, (sub3 ns).length ≤ 2 ^ ns.length := fun ns => by
  have go : ∀ (ns : List Int) (acc : List (List Int)), (ns.foldl (fun acc p => acc ++ (acc.filter fun s => decide (s.length < 3)).map (· ++ [p])) acc).length ≤ acc.length * 2 ^ ns.length := fun ns => by
    induction ns with
    | nil => exact fun acc => Nat.le_of_eq (Nat.mul_one _).symm
    | cons n ns ih =>
      intro acc
      rw [List.foldl_cons]
      refine Nat.le_trans (ih _) ?_
      rw [List.length_cons, Nat.pow_succ, Nat.mul_comm (2 ^ _) 2, ← Nat.mul_assoc]
      refine Nat.mul_le_mul_right _ ?_
      have := List.length_filter_le (fun s : List Int => decide (s.length < 3)) acc
      rw [List.length_append, List.length_map]
      omega
  exact Nat.le_trans (go ns [[]]) (Nat.le_of_eq (Nat.one_mul _))
def addN (acc : List Tab) (x : Tab) : List Tab := if x ∈ acc then acc else acc ++ [x]
def addB (T R : Tab) (acc : List Tab) (s : List Int) : List Tab := addN (addN acc (cut T s)) (cut R s)
def threesM (T R : Tab) : List Tab := (sub3 T.1).foldl (addB T R) []
theorem addN_len (acc : List Tab) (x : Tab) : (addN acc x).length ≤ acc.length + 1 := by
  unfold addN
  split
  · omega
  · rw [List.length_append] <;> exact Nat.le_refl _
def sp__law_threes : Sp := spF (fun x : Tab × Tab => [dTab x.1, dTab x.2]) (fun x => WF x.1 ∧ WF x.2) (fun x => .lst ((threesM x.1 x.2).map dTab))
theorem ok__law_threes (D__law_cut : Def P w K mg base "_law_cut" ["_law_chart_here", "_law_some"] [] 1 sp__law_cut) (B : Blt mg tv) (F : Fun K "_law_threes" "_law_threes" s__law_threes f fd) : FnOk P w K mg base CX0 2 f fd ["_law_chart_here", "_law_rival"] sp__law_threes := by
  have nd := sc__law_threes.nd
  refine F.ok (k := 1) sc__law_threes (fun vs H Q E h => spF_len (n:=2) (fun _ => rfl) h) (fun cdv A outer s H vs Q E hr h => ?_)
  refine ⟨_, (pss_cons (ps_par (i := 2) (j := 3) rfl nd rfl rfl (by decide) rfl rfl (pa_cons (pe_lst pa_nil) (pa_cons (pe_lst (pa_cons (pe_tup pa_nil) pa_nil)) pa_nil)) (by rfl))
      (pss_cons (ps_for PassesOwn.never rfl (pi_tupK K (pe_ix (ix_tupK K) (pv 0) pe_int (fun _ _ => rfl))) (pg_name (i := 4) nd rfl (Or.inr rfl)) (pss_one (ps_set (i := 3) nd rfl (Or.inl rfl) (pe_op op_cat (pv 3) (pe_lc (own := [("_law_early", 5)]) rfl nd (pi_listK K (pv 3)) (blkOk_by (N := N__law_threes) (sc := (defScope s__law_threes)) (by decide +kernel)) (fun _ _ _ _ _ => (pg_name (i := 5) nd rfl (Or.inl rfl))) (fun _ _ _ _ _ => pts_one (pt_cmpR op_lt (pe_callB (call_lenK K) (by rfl) B.len_ (by decide +kernel) (pa_cons (pv 5) pa_nil)) pe_int (nomark _))) (fun _ _ _ _ _ => (pe_op (op_catAK K) (pv 5) (pe_tup (pa_cons (pv 4) pa_nil)))))))))
      (pss_cons (ps_for PassesOwn.never rfl (pi_listK K (pv 3)) (pg_name (i := 6) nd rfl (Or.inl rfl)) (pss_one (ps_for PassesOwn.never rfl (pi_tupK K (pe_tup (pa_cons (pe_def D__law_cut (hr.mono (by decide)) (by rfl) (pa_cons (pv 0) (pa_cons (pv 6) pa_nil))) (pa_cons (pe_def D__law_cut (hr.mono (by decide)) (by rfl) (pa_cons (pv 1) (pa_cons (pv 6) pa_nil))) pa_nil)))) (pg_name (i := 7) nd rfl (Or.inl rfl)) (pss_one (ps_if (pt_cmpR (op_notInD (un65 hr)) (pv 7) (pv 2) (rfl)) (pss_one (ps_expr (pe_bm PySem.F.plainAttrs_list PySem.F.slot_list_append PySem.F.type_list_append mt_append (pv 2) (pa_cons (pv 7) pa_nil)))) pss_nil)))))
      (pss_one (ps_ret (pv 2)))))), body_ok (N := N__law_threes) h fun x hp => ?_⟩
  obtain ⟨T, R⟩ := x
  obtain ⟨hw, hv⟩ := hp
  dsimp only at hw hv
  have pl := hw.pl
  show DS _ [.d (dTab T), .d (dTab R), .un, .un, .un, .un, .un, .un] _
  apply ds_seq
  apply ds_parL (xs := []) (d := .lst ((sub3 (T.1.take 0)).map dTI))
  · exact dl_lst da_nil
  · exact (dl_lst (da_cons dv_tup0 da_nil) (by simp)).v
  apply ds_seq
  refine ds_for T.1 D.int (fun n => [(4, .int n)]) (fun i s => ∃ a b, s = [.d (dTab T), .d (dTab R), .ml [], .d (.lst ((sub3 (T.1.take i)).map dTI)), a, b, .un, .un]) (di_tup (d := dFI T.1) ?_ rfl) (fun _ _ => dg_name) ⟨_, _, rfl⟩ ?_ ?_
  · repeat' walk_at "s"
  · rintro i n s hi ⟨a, b, rfl⟩
    have hl : (sub3 (T.1.take i)).length ≤ 32 := Nat.le_trans (sub3_len _) (Nat.pow_le_pow_right (n := 2) (by decide) (show _ ≤ 5 by rw [List.length_take]; omega))
    apply ds_set (d := .lst ((sub3 (T.1.take (i + 1))).map dTI))
    · rw [take_snoc hi, sub3_snoc, List.map_append]
      apply dv_op
      · repeat' walk_at "s"
      · refine dl_lcE (sub3 (T.1.take i)) dTI (fun e => [(5, dTI e)]) (fun s => decide (s.length < 3)) (· ++ [n]) dTI (di_list ?_) (fun _ _ => dg_name) (fun _ _ => rfl) (fun m hm => ?_) (fun m hm h3 => ?_) (by omega)
        · repeat' walk_at "s"
        · apply DT.cast
          · apply dt_test
            apply dv_op
            · apply dv_cb
              · repeat' walk_at "s"
              · exact cv_lenK rfl
            · repeat' walk_at "s"
            · exact ov_B0
          · rw [List.length_map]
            exact decide_eq_decide.mpr (by omega)
        · have := of_decide_eq_true h3
          apply DV.cast
          · apply dv_op
            · repeat' walk_at "s"
            · repeat' walk_at "s"
            · exact ov_catA rfl rfl (by simp; omega)
          · rw [← List.map_singleton (f := D.int), ← List.map_append]
      · have := List.length_filter_le (fun s : List Int => decide (s.length < 3)) (sub3 (T.1.take i))
        exact (ol_cat (by rw [List.length_map, List.length_map, List.length_map]; omega)).v
    · exact ⟨_, _, rfl⟩
  rintro s ⟨a, b, rfl⟩
  rw [List.take_length]
  apply ds_seq
  refine ds_for (sub3 T.1) dTI (fun s => [(6, dTI s)]) (fun i t => ∃ a b c e acc, t = [.d (dTab T), .d (dTab R), .ml (acc.map dTab), .d (.lst ((sub3 T.1).map dTI)), a, b, c, e] ∧ acc = ((sub3 T.1).take i).foldl (addB T R) [] ∧ acc.length ≤ 2 * i) (di_list ?_) (fun _ _ => dg_name) ⟨_, _, _, _, [], rfl, rfl, Nat.le_refl _⟩ ?_ ?_
  · repeat' walk_at "s"
  · rintro i o s hi ⟨a, b, c, e, acc, rfl, ha, hl⟩
    have i32 : i < 32 := Nat.lt_of_lt_of_le (List.getElem?_eq_some_iff.mp hi).1 (Nat.le_trans (sub3_len _) (Nat.pow_le_pow_right (n := 2) (by decide) pl))
    refine ds_for [cut T o, cut R o] dTab (fun s => [(7, dTab s)]) (fun i t => ∃ e acc', t = [.d (dTab T), .d (dTab R), .ml (acc'.map dTab), .d (.lst ((sub3 T.1).map dTI)), a, b, .d (dTI o), e] ∧ acc' = ([cut T o, cut R o].take i).foldl addN acc ∧ acc'.length ≤ acc.length + i) (di_tup (d := .tup [dTab (cut T o), dTab (cut R o)]) ?_ rfl) (fun _ _ => dg_name) ⟨_, acc, rfl, rfl, Nat.le_refl _⟩ ?_ ?_
    · repeat' walk_at "s"
    · rintro j x s hj ⟨e, acc', rfl, ha', hl'⟩
      have hj2 : j < 2 := (List.getElem?_eq_some_iff.mp hj).1
      have ln := addN_len acc' x
      apply ds_if (b := !decide (x ∈ acc'))
      · refine dt_peek (i := 2) rfl ?_
        apply DT.cast
        · apply dt_test
          apply dv_op
          · exact dv_var (d := dTab x) rfl
          · exact dv_var (d := .lst (acc'.map dTab)) rfl
          · exact ov_notInD eqTab (by decide)
        · exact congrArg _ (decide_eq_decide.mpr Iff.rfl)
      · intro hb
        have hx : ¬ x ∈ acc' := by simpa using hb
        apply ds_app (xs := acc'.map dTab) rfl
        · repeat' walk_at "s"
        · rw [List.length_map]
          omega
        · refine ⟨.d (dTab x), acc' ++ [x], by rw [List.map_append] <;> rfl, ?_, by rw [List.length_append] <;> exact Nat.succ_le_succ hl'⟩
          rw [take_snoc hj, List.foldl_append, ← ha']
          show _ = addN acc' x
          unfold addN
          rw [if_neg hx]
      · intro hb
        have hx : x ∈ acc' := by simpa using hb
        apply ds_nx
        refine ⟨.d (dTab x), acc', rfl, ?_, by omega⟩
        rw [take_snoc hj, List.foldl_append, ← ha']
        show _ = addN acc' x
        unfold addN
        rw [if_pos hx]
    · rintro s ⟨e, acc', rfl, ha', hl'⟩
      refine ⟨_, _, _, _, acc', rfl, ?_, by have : [cut T o, cut R o].length = 2 := rfl; omega⟩
      rw [take_snoc hi, List.foldl_append, ← ha, ha'] <;> rfl
  rintro s ⟨a, b, c, e, acc, rfl, ha, hl⟩
  rw [List.take_length] at ha
  refine ds_frz 2 rfl ?_
  apply ds_ret
  · repeat' walk_at "s"
  · rw [ha] <;> rfl
theorem cl__law_threes {T R : Tab} (h : DA tr sl [dTab T, dTab R]) (hp : WF T ∧ WF R) : DV (tCall sp__law_threes [] E tr) sl (.lst ((threesM T R).map dTab)) := dv_call0 (enc := fun x : Tab × Tab => [dTab x.1, dTab x.2]) (T, R) h hp
local macro_rules | `(tactic| walk_at "s") => `(tactic| with_reducible apply cl__law_threes)

abbrev s__law_many : Stmt := topS 86
abbrev N__law_many : List Str := ["_law_chart_here", "_law_goal", "_law_some", "_law_found", "_law_q", "_law_p"]
theorem sc__law_many : FnScope N__law_many ["_law_chart_here", "_law_goal"] (defScope s__law_many) := ⟨rfl, rfl, rfl, by decide +kernel, rfl, by decide +kernel, by decide +kernel⟩
def outQ (T : Tab) (s : List Int) : List Int := ((web T).filter fun e => decide (e.1 ∈ s) && !decide (e.2 ∈ s)).map (·.2)
theorem outQ_ps {T : Tab} (hw : WF T) {s : List Int} : ∀ q ∈ outQ T s, 2 ≤ q ∧ q ≤ 31 := fun q hq => by
  obtain ⟨e, he, rfl⟩ := List.mem_map.mp hq
  obtain ⟨m, hm, x, hx, rfl⟩ := mem_web.mp (List.mem_filter.mp he).1
  exact ps_of hw ((hw.mv m hm).ed x hx).1
theorem outQ_len {T : Tab} (hw : WF T) (s : List Int) : (outQ T s).length ≤ 25 := by
  have := web_len hw
  have := List.length_filter_le (fun e : Pr => decide (e.1 ∈ s) && !decide (e.2 ∈ s)) (web T)
  unfold outQ
  rw [List.length_map]
  omega
def manyL (T G : Tab) : Int := if aliL (cut T G.1) G = true then prodI (sortU (outQ T G.1)) else 0
def sp__law_many : Sp := spF (fun x : Tab × Tab => [dTab x.1, dTab x.2]) (fun x => WF x.1 ∧ WF x.2) (fun x => .int (manyL x.1 x.2))
theorem ok__law_many (D__law_are_alike : Def P w K mg base "_law_are_alike" ["_law_one", "_law_two"] [] 3 sp__law_are_alike) (D__law_cut : Def P w K mg base "_law_cut" ["_law_chart_here", "_law_some"] [] 1 sp__law_cut) (D__law_web : Def P w K mg base "_law_web" ["_law_chart_here"] [] 1 sp__law_web) (B : Blt mg tv) (F : Fun K "_law_many" "_law_many" s__law_many f fd) : FnOk P w K mg base CX0 4 f fd ["_law_chart_here", "_law_goal"] sp__law_many := by
  have nd := sc__law_many.nd
  refine F.ok (k := 3) sc__law_many (fun vs H Q E h => spF_len (n:=2) (fun _ => rfl) h) (fun cdv A outer s H vs Q E hr h => ?_)
  refine ⟨_, (pss_cons (ps_set (i := 2) nd rfl (Or.inr rfl) (pe_ix (ix_tupK K) (pv 1) pe_int (fun _ _ => rfl)))
      (pss_cons (ps_if (pt_not (pt_val (pe_def D__law_are_alike (hr.mono (by decide)) (by rfl) (pa_cons (pe_def D__law_cut (hr.mono (by decide)) (by rfl) (pa_cons (pv 0) (pa_cons (pv 2) pa_nil))) (pa_cons (pv 1) pa_nil))))) (pss_one (ps_ret pe_int)) pss_nil)
      (pss_cons (ps_set (i := 3) nd rfl (Or.inl rfl) pe_int)
      (pss_cons (ps_for PassesOwn.never rfl (pi_listK K (pe_callB (cr_sortedSetK w rfl) (by rfl) B.sorted_ (by decide +kernel) (pa_cons (pe_callTy (cr_setLK K w rfl) (by rfl) B.set_ (by decide +kernel) (pa_cons (pe_lc (own := [("_law_p", 5), ("_law_q", 4)]) rfl nd (pi_tupK K (pe_def D__law_web (hr.mono (by decide)) (by rfl) (pa_cons (pv 0) pa_nil))) (blkOk_by (N := N__law_many) (sc := (defScope s__law_many)) (by decide +kernel)) (fun _ _ _ _ _ => (pg_tupK (n := 2) K rfl (pgs_cons (pg_name (i := 5) nd rfl (Or.inl rfl)) (pgs_cons (pg_name (i := 4) nd rfl (Or.inl rfl)) pgs_nil)))) (fun _ _ _ _ _ => pts_one (PW.pt (pw_and (pt_cmpR (op_inK K) (pv 5) (pv 2) (rfl)) (pw_and1 (pt_cmpR (op_notInK K) (pv 4) (pv 2) (rfl)))))) (fun _ _ _ _ _ => (pv 4))) pa_nil)) pa_nil))) (pg_name (i := 4) nd rfl (Or.inl rfl)) (pss_one (ps_set (i := 3) nd rfl (Or.inl rfl) (pe_op op_mul (pv 3) (pv 4)))))
      (pss_one (ps_ret (pv 3))))))), body_ok (N := N__law_many) h fun x hp => ?_⟩
  obtain ⟨T, G⟩ := x
  obtain ⟨hw, hv⟩ := hp
  dsimp only at hw hv
  have wl := web_len hw
  show DS _ [.d (dTab T), .d (dTab G), .un, .un, .un, .un] _
  apply ds_seq
  apply ds_set (d := dFI G.1)
  · repeat' walk_at "s"
  apply ds_seq
  apply ds_if (b := !aliL (cut T G.1) G)
  · apply dt_not
    apply dt_test
    apply cl__law_are_alike (T := cut T G.1) (R := G)
    · apply da_cons
      · apply cl__law_cut (d := dFI G.1) (s := G.1)
        · repeat' walk_at "s"
        · exact hw
        · rfl
      · repeat' walk_at "s"
    · exact ⟨wf_cut hw _, hv⟩
  · intro hb
    apply ds_ret
    · repeat' walk_at "s"
    · show D.int 0 = D.int (manyL T G)
      unfold manyL
      rw [if_neg (by simpa using hb)]
  intro hb
  apply ds_nx
  apply ds_seq
  apply ds_set
  · repeat' walk_at "s"
  apply ds_seq
  refine ds_for (sortU (outQ T G.1)) D.int (fun q => [(4, .int q)]) (fun i s => ∃ a b, s = [.d (dTab T), .d (dTab G), .d (dFI G.1), .d (.int (prodI ((sortU (outQ T G.1)).take i))), a, b]) (di_list (DL.v (dl_sortset (ns := outQ T G.1) ?_ (Nat.le_trans (outQ_len hw _) (by decide))))) (fun _ _ => dg_name) ⟨_, _, rfl⟩ ?_ ?_
  · apply da_cons
    · refine dl_lcE (web T) dPr (fun e => [(5, .int e.1), (4, .int e.2)]) (fun e => decide (e.1 ∈ G.1) && !decide (e.2 ∈ G.1)) (·.2) D.int (di_tup (d := dWeb (web T)) ?_ rfl) (fun _ _ => dg_tup rfl (dgs_cons (dgs_cons dgs_nil))) (fun _ _ => rfl) (fun e _ => ?_) (fun e _ _ => ?_) (by omega)
      · repeat' walk_at "s"
      · repeat' walk_at "s"
        · exact ov_in rfl
        · exact ov_notIn rfl
      · repeat' walk_at "s"
    · exact da_nil
  · rintro i q s hi ⟨a, b, rfl⟩
    have hq := outQ_ps hw q (mem_sortU.mp (mem_at hi))
    apply ds_set
    · repeat' walk_at "s"
    · exact ⟨_, _, by rw [take_snoc hi, prodI_snoc] <;> rfl⟩
  · rintro s ⟨a, b, rfl⟩
    rw [List.take_length]
    apply ds_ret
    · repeat' walk_at "s"
    · show D.int _ = D.int (manyL T G)
      unfold manyL
      rw [if_pos (by simpa using hb)]
theorem cl__law_many {T G : Tab} (h : DA tr sl [dTab T, dTab G]) (hp : WF T ∧ WF G) : DV (tCall sp__law_many [] E tr) sl (.int (manyL T G)) := dv_call0 (enc := fun x : Tab × Tab => [dTab x.1, dTab x.2]) (T, G) h hp
local macro_rules | `(tactic| walk_at "s") => `(tactic| with_reducible apply cl__law_many)

abbrev s__law_factors : Stmt := topS 76
abbrev N__law_factors : List Str := ["_law_chart_here", "_law_item", "_law_found", "_law_p", "_law_row_here", "_law_rest", "_law_q", "_law_root", "_law_spot"]
theorem sc__law_factors : FnScope N__law_factors ["_law_chart_here", "_law_item"] (defScope s__law_factors) := ⟨rfl, rfl, rfl, by decide +kernel, rfl, by decide +kernel, by decide +kernel⟩
def idx (T : Tab) (q : Int) : Nat := T.1.idxOf q
def stepF (T : Tab) (y : Int) (fo : List Int) (e : Pr) : List Int := fo.set (idx T e.1) (fo.getD (idx T e.1) 0 * upM e.2 y.toNat e.1 % e.1)
def factM (T : Tab) (y : List Int) : List Int := T.2.foldl (fun fo m => m.2.foldl (stepF T (y.getD (idx T m.1) 0)) fo) (List.replicate T.1.length 1)
theorem idx_lt {T : Tab} {q : Int} (h : q ∈ T.1) : idx T q < T.1.length := List.idxOf_lt_length_of_mem h
theorem getD_at {α : Type} {xs : List α} {i : Nat} {d : α} (h : i < xs.length) : xs[i]? = some (xs.getD i d) := by
  rw [List.getElem?_eq_getElem h, List.getD_eq_getElem?_getD, List.getElem?_eq_getElem h] <;> rfl
theorem atI_map {α : Type} {xs : List α} {E : α → D} {i : Nat} {x : α} (h : xs[i]? = some x) : atI (xs.map E) (i : Int) = some (E x) := atI_nat (by rw [List.getElem?_map, h] <;> rfl)
def sp__law_factors : Sp := spF (fun x : Tab × List Int => [dTab x.1, dTI x.2]) (fun x => WF x.1 ∧ x.2.length = x.1.1.length ∧ ∀ y ∈ x.2, 0 ≤ y ∧ y < 10000) (fun x => dLI (factM x.1 x.2))
theorem ok__law_factors (D__law_up : Def P w K mg base "_law_up" ["_law_root", "_law_many_here", "_law_prime"] [] 1 sp__law_up) (B : Blt mg tv) (F : Fun K "_law_factors" "_law_factors" s__law_factors f fd) : FnOk P w K mg base CX0 2 f fd ["_law_chart_here", "_law_item"] sp__law_factors := by
  have nd := sc__law_factors.nd
  refine F.ok (k := 1) sc__law_factors (fun vs H Q E h => spF_len (n:=2) (fun _ => rfl) h) (fun cdv A outer s H vs Q E hr h => ?_)
  refine ⟨_, (pss_cons (ps_set (i := 2) nd rfl (Or.inl rfl) (pe_op op_rep (pe_lst (pa_cons pe_int pa_nil)) (pe_callB (call_lenK K) (by rfl) B.len_ (by decide +kernel) (pa_cons (pe_ix (ix_tupK K) (pv 0) pe_int (fun _ _ => rfl)) pa_nil))))
      (pss_cons (ps_for PassesOwn.never rfl (pi_tupK K (pe_ix (ix_tupK K) (pv 0) pe_int (fun _ _ => rfl))) (pg_tupK (n := 2) K rfl (pgs_cons (pg_name (i := 3) nd rfl (Or.inl rfl)) (pgs_cons (pg_name (i := 4) nd rfl (Or.inl rfl)) pgs_nil))) (pss_cons (ps_set (i := 5) nd rfl (Or.inl rfl) (pe_ix (ix_tupK K) (pv 1) (pe_tixK K (pe_tix (pe_ix (ix_tupK K) (pv 0) pe_int (fun _ _ => rfl)) (pv 3))) (fun _ _ => rfl)))
      (pss_one (ps_for PassesOwn.never rfl (pi_tupK K (pv 4)) (pg_tupK (n := 2) K rfl (pgs_cons (pg_name (i := 6) nd rfl (Or.inl rfl)) (pgs_cons (pg_name (i := 7) nd rfl (Or.inl rfl)) pgs_nil))) (pss_cons (ps_set (i := 8) nd rfl (Or.inl rfl) (pe_tixK K (pe_tix (pe_ix (ix_tupK K) (pv 0) pe_int (fun _ _ => rfl)) (pv 6))))
      (pss_one (ps_asg (pe_op op_mod (pe_callTy call_intK (by rfl) B.int_ (by decide +kernel) (pa_cons (pe_op op_mul (pe_ix (ix_listK K) (pv 2) (pv 8) (fun _ _ => rfl)) (pe_def D__law_up (hr.mono (by decide)) (by rfl) (pa_cons (pv 7) (pa_cons (pv 5) (pa_cons (pv 6) pa_nil))))) pa_nil)) (pv 6)) (pg_sub (pv 2) (pv 8) set_list))))))))
      (pss_one (ps_ret (pv 2))))), body_ok (N := N__law_factors) h fun x hp => ?_⟩
  obtain ⟨T, y⟩ := x
  obtain ⟨hw, hl, hy⟩ := hp
  dsimp only at hw hl hy
  have pl := hw.pl
  show DS _ [.d (dTab T), .d (dTI y), .un, .un, .un, .un, .un, .un, .un] _
  apply ds_seq
  apply ds_asgL (xs := (List.replicate T.1.length (1 : Int)).map D.int)
  · refine DL.cast (dl_op (dl_lst (da_cons dv_int da_nil) (by simp)).v (dv_cb (da_cons ?_ da_nil) (cv_lenK (d := dFI T.1) rfl)) (ol_rep (d := .int 1) (by omega) (by rw [List.length_map]; omega))) (by rw [List.map_replicate, List.length_map] <;> rfl)
    repeat' walk_at "s"
  apply ds_seq
  refine ds_for T.2 dMv (fun m => [(3, .int m.1), (4, dRow m.2)]) (fun i t => ∃ a b c e g h fo, t = [.d (dTab T), .d (dTI y), .ml (fo.map D.int), a, b, c, e, g, h] ∧ fo.length = T.1.length ∧ fo = (T.2.take i).foldl (fun fo m => m.2.foldl (stepF T (y.getD (idx T m.1) 0)) fo) (List.replicate T.1.length 1)) (di_tup (d := .tuf (T.2.map dMv)) ?_ rfl) (fun _ _ => dg_tup rfl (dgs_cons (dgs_cons dgs_nil))) ⟨_, _, _, _, _, _, _, rfl, List.length_replicate, rfl⟩ ?_ ?_
  · repeat' walk_at "s"
  · rintro i m s hi ⟨a, b, c, e, g, h, fo, rfl, fl, ff⟩
    have wm := hw.mv m (mem_at hi)
    have iy : idx T m.1 < y.length := by rw [hl]; exact idx_lt wm.mi
    have yb := hy _ (mem_at (getD_at (d := 0) iy))
    apply ds_seq
    apply ds_set (d := .int (y.getD (idx T m.1) 0))
    · apply dv_op
      · repeat' walk_at "s"
      · refine dv_tix (ns := T.1) (k := m.1) ?_ ?_ wm.mi
        · repeat' walk_at "s"
        · repeat' walk_at "s"
      · exact ov_ixT rfl (atI_map (getD_at (d := 0) iy))
    refine ds_for m.2 dPr (fun e => [(6, .int e.1), (7, .int e.2)]) (fun j t => ∃ e g h fo', t = [.d (dTab T), .d (dTI y), .ml (fo'.map D.int), .d (.int m.1), .d (dRow m.2), .d (.int (y.getD (idx T m.1) 0)), e, g, h] ∧ fo'.length = T.1.length ∧ fo' = (m.2.take j).foldl (stepF T (y.getD (idx T m.1) 0)) fo) (di_tup (d := dRow m.2) ?_ rfl) (fun _ _ => dg_tup rfl (dgs_cons (dgs_cons dgs_nil))) ⟨_, _, _, fo, rfl, fl, rfl⟩ ?_ ?_
    · repeat' walk_at "s"
    · rintro j q s hj ⟨e, g, h, fo', rfl, fl', ff'⟩
      have wq := wm.ed q (mem_at hj)
      have q2 := ps_of hw wq.1
      have iq : idx T q.1 < fo'.length := by rw [fl']; exact idx_lt wq.1
      have ub := upM_lo (b := q.2) (k := (y.getD (idx T m.1) 0).toNat) (p := q.1) (by omega)
      apply ds_seq
      apply ds_set (d := .int (idx T q.1 : Nat))
      · refine dv_tix (ns := T.1) (k := q.1) ?_ ?_ wq.1
        · repeat' walk_at "s"
        · repeat' walk_at "s"
      refine ds_setLE (i := 2) (xs := fo'.map D.int) (k := (idx T q.1 : Nat)) (j := idx T q.1) (Pd := fun d => d = .int (fo'.getD (idx T q.1) 0 * upM q.2 (y.getD (idx T m.1) 0).toNat q.1 % q.1)) rfl (DV.e ?_ rfl) (dv_var rfl) ?_ ?_
      · apply dv_op
        · apply dv_cb
          · apply da_cons
            · refine dv_peek (i := 2) (d := .int (fo'.getD (idx T q.1) 0 * upM q.2 (y.getD (idx T m.1) 0).toNat q.1)) rfl rfl ?_
              apply dv_op
              · apply dv_op
                · exact dv_var rfl
                · exact dv_var rfl
                · exact ov_ixL (atI_map (getD_at (d := 0) iq))
              · apply cl__law_up
                · repeat' walk_at "s"
                · exact ⟨yb.1, yb.2, by omega, by omega⟩
              · exact ov_I (.inr ⟨by omega, by omega⟩)
            · exact da_nil
          · exact cv_intK
        · repeat' walk_at "s"
        · exact ov_I (show 0 < q.1 by omega)
      · unfold ixN
        rw [if_pos (Int.natCast_nonneg _), if_pos (by rw [List.length_map]; omega)] <;> rfl
      · rintro d rfl
        have hset : (fo'.map D.int).set (idx T q.1) (.int (fo'.getD (idx T q.1) 0 * upM q.2 (y.getD (idx T m.1) 0).toNat q.1 % q.1)) = (stepF T (y.getD (idx T m.1) 0) fo' q).map D.int := by
          unfold stepF
          rw [List.map_set]
        refine ⟨.d (.int q.1), .d (.int q.2), .d (.int (idx T q.1 : Nat)), stepF T (y.getD (idx T m.1) 0) fo' q, by rw [← hset] <;> rfl, ?_, ?_⟩
        · unfold stepF
          rw [List.length_set, fl']
        · rw [take_snoc hj, List.foldl_append, ← ff'] <;> rfl
    · rintro s ⟨e, g, h, fo', rfl, fl', ff'⟩
      refine ⟨_, _, _, _, _, _, fo', rfl, fl', ?_⟩
      rw [take_snoc hi, List.foldl_append, ← ff, ff', List.take_length] <;> rfl
  · rintro s ⟨a, b, c, e, g, h, fo, rfl, fl, ff⟩
    refine ds_frz 2 rfl ?_
    apply ds_ret
    · repeat' walk_at "s"
    · rw [ff, List.take_length] <;> rfl
theorem cl__law_factors {T : Tab} {y : List Int} (h : DA tr sl [dTab T, dTI y]) (hp : WF T ∧ y.length = T.1.length ∧ ∀ k ∈ y, 0 ≤ k ∧ k < 10000) : DV (tCall sp__law_factors [] E tr) sl (dLI (factM T y)) := dv_call0 (enc := fun x : Tab × List Int => [dTab x.1, dTI x.2]) (T, y) h hp
local macro_rules | `(tactic| walk_at "s") => `(tactic| with_reducible apply cl__law_factors)
end
end Wa
set_option maxHeartbeats 4000000
namespace Wa
open PySem PySem.Spec PyProof.Rows L2
local macro_rules | `(tactic| walk_at "s") => `(tactic| first
  | with_reducible exact dv_int | with_reducible exact dv_bl | with_reducible exact dv_str | with_reducible exact dv_non
  | ((with_reducible apply dv_var); first | rfl | (show _ = _; assumption))
  | with_reducible apply dv_op
  | with_reducible apply da_cons | with_reducible exact da_nil
  | with_reducible apply dv_tup2 | with_reducible apply dv_tup1 | with_reducible apply dv_tup3 | with_reducible exact dv_tup0
  | with_reducible apply dv_isN | with_reducible apply dv_notN
  | with_reducible apply dt_test | with_reducible apply dt_B | with_reducible exact dt_yes
  | with_reducible apply (dt_and ?_ fun _ => ?_) | with_reducible apply (dt_or ?_ fun _ => ?_) | with_reducible apply dt_not
  | with_reducible apply (dv_and ?_ fun _ => ?_) | with_reducible apply dv_not
  | with_reducible apply (dv_chain (g := D.non) ?_ ?_ ?_ (fun _ => ?_) (fun _ => ?_))
  | with_reducible exact ov_I0 | with_reducible exact ov_B0 | ((with_reducible apply ov_I); first | (show 0 < _; omega) | (unfold CDiv; omega) | (unfold CMul; omega) | (unfold CDivN; omega) | skip)
  | with_reducible exact ov_eqI | with_reducible exact ov_neI | with_reducible exact ov_eqB | with_reducible exact ov_eqS | with_reducible exact ov_notB
  | with_reducible exact ov_isN | with_reducible exact ov_notN
  | with_reducible apply dv_neg
  | with_reducible apply dv_isInt | with_reducible apply dv_isBool
  | with_reducible apply dv_cb
  | (with_reducible exact cv_tupleK) | (with_reducible exact cv_tupF) | (with_reducible exact cv_intK) | (with_reducible exact cv_sum) | (with_reducible exact cv_all) | (with_reducible exact cv_any) | ((with_reducible apply cv_lenK); rfl)
  | (exact ov_ixT rfl rfl) | (exact ov_ixL rfl)
  | with_reducible apply dv_din | with_reducible apply dv_dnotin
  | (show D.items _ = some _; rfl) | (show D.seq _ = some _; rfl) | ((show WF _); assumption))
local macro_rules | `(tactic| walk_at "s") => `(tactic| first | with_reducible apply cl_power_in | with_reducible apply cl_size_in | with_reducible apply cl_weight_of | with_reducible apply cl_rows_in | with_reducible apply cl_web_in | with_reducible apply cl_movers_in | with_reducible apply cl_moved_in | with_reducible apply cl_still_in | with_reducible apply cl_moved_by | with_reducible apply cl_movers_on | with_reducible apply cl_struck_by | with_reducible apply cl_subsets_of | with_reducible apply cl_cut_in | with_reducible apply cl_log_in | with_reducible apply cl_row_power | with_reducible apply cl_power_in_rows | with_reducible apply cl_alike_in | with_reducible apply cl_is_undivided | with_reducible apply cl_is_whole_number | with_reducible apply cl_is_count | with_reducible apply cl_is_small_prime | with_reducible apply cl_is_pair | with_reducible apply cl_are_rising | with_reducible apply cl_are_primes_among | with_reducible apply cl_prime_fault | with_reducible apply cl_move_fault | with_reducible apply cl_row_fault | with_reducible apply cl_table_fault | with_reducible apply cl_want2 | with_reducible apply cl_want_table1 | with_reducible apply cl_want_table2 | with_reducible apply cl_want_primes2 | with_reducible apply cl_want_both | with_reducible apply cl_are_alike | with_reducible apply cl_moved_out | with_reducible apply cl_parts_in | with_reducible apply cl_part_count | with_reducible apply cl_is_like_part | with_reducible apply cl_alike_parts_in | with_reducible apply cl_parts_alike | with_reducible apply cl_cut_to | with_reducible apply cl_other_moved | with_reducible apply cl_twisted_in | with_reducible apply cl_twisted_count | with_reducible apply cl__law_up | with_reducible apply cl__law_roots | with_reducible apply cl__law_movers | with_reducible apply cl__law_row | with_reducible apply cl__law_web | with_reducible apply cl__law_power_between | with_reducible apply cl__law_are_alike | with_reducible apply cl__law_cut | with_reducible apply cl__law_threes | with_reducible apply cl__law_many | with_reducible apply cl__law_factors )
theorem ov_cast {r : R2} {d e f g : D} (h : OV r d e f) (q : f = g) : OV r d e g := q ▸ h
theorem sum_snoc {α : Type} {xs : List α} {i : Nat} {x : α} (h : xs[i]? = some x) (f : α → Int) : ((xs.take (i + 1)).map f).sum = ((xs.take i).map f).sum + f x := by
  rw [map_take_snoc h, List.sum_append, List.sum_cons, List.sum_nil, Int.add_zero]
/-! the law's own count, in plain terms -/
def putY (T : Tab) (p : Int) (y : List Int) (r : Int) : List Int := T.1.zipIdx.map fun e => if e.1 = p then r else y.getD e.2 0
def spread (T : Tab) (p : Int) (y : List Int) : List (List Int) := (List.range p.toNat).map fun (r : Nat) => putY T p y (0 + (r : Int))
def itemsM (T : Tab) : List (List Int) := (movers T).foldl (fun acc p => acc.flatMap (spread T p)) [List.replicate T.1.length 0]
def mvL (T : Tab) : List Int := sortU ((web T).map (·.2))
def okY (T : Tab) (r : Int) (y : List Int) : Bool := decide (((List.range T.1.length).filter fun k => !decide (y.getD k 0 * (r - 1) % T.1.getD k 0 = 0)) = [])
def stepH (T : Tab) (r : Int) (h1 h2 : List Int) (a q : Int) : Int := a * (if h1.getD (idx T q) 0 = 1 ∧ (h2.getD (idx T q) 0 - r) % q = 0 then q * q else q)
def hereM (T : Tab) (r : Int) (h1 h2 : List Int) : Int := (mvL T).foldl (stepH T r h1 h2) 1
def rowT (T : Tab) (r : Int) (y : List Int) : Int := if okY T r y = true then ((itemsM T).map fun z => hereM T r (factM T y) (factM T z)).sum else 0
def lastF (T : Tab) (r a p : Int) : Int := if p ∉ movers T ∧ p ∉ mvL T then a * (if (r - 1) % p = 0 then p * p else p) else a
def twL (T : Tab) (r : Int) : Int := T.1.foldl (lastF T r) ((itemsM T).map (rowT T r)).sum
theorem putY_len (T : Tab) (p : Int) (y : List Int) (r : Int) : (putY T p y r).length = T.1.length := by
  unfold putY
  rw [List.length_map, List.length_zipIdx]
structure ItOk (T : Tab) (y : List Int) : Prop where
  ln : y.length = T.1.length
  bd : ∀ v ∈ y, 0 ≤ v ∧ v < 32
theorem spread_ok {T : Tab} {p : Int} (hp : p ≤ 31) {y : List Int} (hy : ItOk T y) : ∀ z ∈ spread T p y, ItOk T z := fun z hz => by
  obtain ⟨r, hr, rfl⟩ := List.mem_map.mp hz
  have hr := List.mem_range.mp hr
  refine ⟨putY_len .., fun v hv => ?_⟩
  unfold putY at hv
  obtain ⟨e, he, rfl⟩ := List.mem_map.mp hv
  split
  · omega
  · obtain ⟨j, hj⟩ := List.getElem?_of_mem he
    rw [List.getElem?_zipIdx] at hj
    obtain ⟨x, hx, ee⟩ := Option.map_eq_some_iff.mp hj
    have hl : j < y.length := by rw [hy.ln]; exact (List.getElem?_eq_some_iff.mp hx).1
    subst ee
    dsimp only
    rw [Nat.zero_add]
    exact hy.bd _ (mem_at (getD_at hl))
theorem items_go {T : Tab} : ∀ (ms : List Int) (acc : List (List Int)), (∀ m ∈ ms, 2 ≤ m ∧ m ≤ 31) → (∀ y ∈ acc, ItOk T y) → (∀ y ∈ ms.foldl (fun acc p => acc.flatMap (spread T p)) acc, ItOk T y) ∧ ((ms.foldl (fun acc p => acc.flatMap (spread T p)) acc).length : Int) = acc.length * prodI ms
  | [], acc, _, h => ⟨h, by show (acc.length : Int) = acc.length * 1; omega⟩
  | m :: ms, acc, hm, h => by
    have m1 := hm m List.mem_cons_self
    obtain ⟨a, b⟩ := items_go ms (acc.flatMap (spread T m)) (fun x hx => hm x (List.mem_cons_of_mem _ hx)) fun y hy => by
      obtain ⟨z, hz, hy2⟩ := List.mem_flatMap.mp hy
      exact spread_ok m1.2 (h z hz) y hy2
    refine ⟨a, ?_⟩
    have e : prodI (m :: ms) = m * prodI ms := by
      have go : ∀ (ns : List Int) (a : Int), ns.foldl (· * ·) a = a * prodI ns := fun ns => by
        induction ns with
        | nil => exact fun a => (Int.mul_one a).symm
        | cons n ns ih =>
          intro a
          unfold prodI
          rw [List.foldl_cons, List.foldl_cons, ih, ih, Int.one_mul, Int.mul_assoc]
      unfold prodI
      rw [List.foldl_cons, go, Int.one_mul]
      rfl
    have l : (acc.flatMap (spread T m)).length = acc.length * m.toNat := by
      clear a b h
      induction acc with
      | nil => simp
      | cons x xs ih =>
        rw [List.flatMap_cons, List.length_append, ih, List.length_cons, Nat.succ_mul, Nat.add_comm]
        congr 1
        unfold spread
        rw [List.length_map, List.length_range]
    rw [List.foldl_cons, b, l, e]
    have : ((acc.length * m.toNat : Nat) : Int) = acc.length * m := by
      rw [Int.natCast_mul, Int.toNat_of_nonneg (by omega)]
    rw [this, Int.mul_assoc]
theorem items_ok {T : Tab} (hw : WF T) : (∀ y ∈ itemsM T, ItOk T y) ∧ ((itemsM T).length : Int) = prodI (movers T) := by
  obtain ⟨a, b⟩ := items_go (T := T) (movers T) [List.replicate T.1.length 0] (fun m hm => ps_of hw (mover_in hw hm)) fun y hy => by
    rw [List.mem_singleton.mp hy]
    exact ⟨List.length_replicate, fun v hv => by rw [List.eq_of_mem_replicate hv]; decide⟩
  exact ⟨a, by unfold itemsM; rw [b]; show ((1 : Nat) : Int) * _ = _; omega⟩
theorem mvL_in {T : Tab} (hw : WF T) : ∀ q ∈ mvL T, q ∈ T.1 := fun q hq => by
  obtain ⟨e, he, rfl⟩ := List.mem_map.mp (mem_sortU.mp hq)
  obtain ⟨m, hm, x, hx, rfl⟩ := mem_web.mp he
  exact ((hw.mv m hm).ed x hx).1
theorem stepF_len (T : Tab) (y : Int) (fo : List Int) (e : Pr) : (stepF T y fo e).length = fo.length := List.length_set ..
theorem factM_len (T : Tab) (y : List Int) : (factM T y).length = T.1.length := by
  have go1 : ∀ (r : Row) (v : Int) (fo : List Int), (r.foldl (stepF T v) fo).length = fo.length := fun r v => by
    induction r with
    | nil => exact fun _ => rfl
    | cons e r ih => exact fun fo => (ih _).trans (stepF_len ..)
  have go2 : ∀ (ms : List (Int × Row)) (fo : List Int), (ms.foldl (fun fo m => m.2.foldl (stepF T (y.getD (idx T m.1) 0)) fo) fo).length = fo.length := fun ms => by
    induction ms with
    | nil => exact fun _ => rfl
    | cons m ms ih => exact fun fo => (ih _).trans (go1 ..)
  unfold factM
  rw [go2, List.length_replicate]
section
variable {P : Program} {w : World} {K : PySem.W.Frag} {mg : Str → Option Value} {base : Heap} {f : Addr} {fd : FuncData} {tv : Value} {sl : List Sl} {tr : TA} {E : XK}
abbrev s__law_twist : Stmt := topS 84
abbrev N__law_twist : List Str := ["_law_chart_here", "_law_r", "_law_movers_here", "_law_nought", "_law_some", "_law_moved", "_law_p", "_law_q", "_law_late", "_law_early", "_law_j", "_law_own", "_law_rest", "_law_held", "_law_found", "_law_item", "_law_spots", "_law_k", "_law_many_here", "_law_spot", "_law_is_free"]
theorem sc__law_twist : FnScope N__law_twist ["_law_chart_here", "_law_r"] (defScope s__law_twist) := ⟨rfl, rfl, rfl, by decide +kernel, rfl, by decide +kernel, by decide +kernel⟩
def sp__law_twist : Sp := spF (fun x : Tab × Int => [dTab x.1, .int x.2]) (fun x => WF x.1 ∧ 2 ≤ x.1.1.length ∧ prodI (movers x.1) ≤ 1000) (fun x => .int (twL x.1 x.2))
theorem ok__law_twist (D__law_movers : Def P w K mg base "_law_movers" ["_law_chart_here"] [] 1 sp__law_movers) (D__law_web : Def P w K mg base "_law_web" ["_law_chart_here"] [] 1 sp__law_web) (D__law_factors : Def P w K mg base "_law_factors" ["_law_chart_here", "_law_item"] [] 2 sp__law_factors) (B : Blt mg tv) (F : Fun K "_law_twist" "_law_twist" s__law_twist f fd) : FnOk P w K mg base CX0 3 f fd ["_law_chart_here", "_law_r"] sp__law_twist := by
  have nd := sc__law_twist.nd
  refine F.ok (k := 2) sc__law_twist (fun vs H Q E h => spF_len (n:=2) (fun _ => rfl) h) (fun cdv A outer s H vs Q E hr h => ?_)
  refine ⟨_, (pss_cons (ps_par (i := 2) (j := 3) rfl nd rfl rfl (by decide) rfl rfl (pa_cons (pe_def D__law_movers (hr.mono (by decide)) (by rfl) (pa_cons (pv 0) pa_nil)) (pa_cons (pe_op (op_repTK K) (pe_tup (pa_cons pe_int pa_nil)) (pe_callB (call_lenK K) (by rfl) B.len_ (by decide +kernel) (pa_cons (pe_ix (ix_tupK K) (pv 0) pe_int (fun _ _ => rfl)) pa_nil))) pa_nil)) (by rfl))
      (pss_cons (ps_par (i := 4) (j := 5) rfl nd rfl rfl (by decide) rfl rfl (pa_cons (pe_lst (pa_cons (pv 3) pa_nil)) (pa_cons (pe_callB (cr_sortedSetK w rfl) (by rfl) B.sorted_ (by decide +kernel) (pa_cons (pe_callTy (cr_setLK K w rfl) (by rfl) B.set_ (by decide +kernel) (pa_cons (pe_lc (own := [("_law_p", 6), ("_law_q", 7)]) rfl nd (pi_tupK K (pe_def D__law_web (hr.mono (by decide)) (by rfl) (pa_cons (pv 0) pa_nil))) (blkOk_by (N := N__law_twist) (sc := (defScope s__law_twist)) (by decide +kernel)) (fun _ _ _ _ _ => (pg_tupK (n := 2) K rfl (pgs_cons (pg_name (i := 6) nd rfl (Or.inl rfl)) (pgs_cons (pg_name (i := 7) nd rfl (Or.inl rfl)) pgs_nil)))) (fun _ _ _ _ _ => pts_nil) (fun _ _ _ _ _ => (pv 7))) pa_nil)) pa_nil)) pa_nil)) (by rfl))
      (pss_cons (ps_for PassesOwn.never rfl (pi_listK K (pv 2)) (pg_name (i := 6) nd rfl (Or.inr rfl)) (pss_cons (ps_set (i := 8) nd rfl (Or.inl rfl) (pe_lst pa_nil))
      (pss_cons (ps_for PassesOwn.never rfl (pi_listK K (pv 4)) (pg_name (i := 9) nd rfl (Or.inr rfl)) (pss_one (ps_set (i := 8) nd rfl (Or.inl rfl) (pe_op op_cat (pv 8) (pe_lc (own := [("_law_rest", 12)]) rfl nd (pi_range1 rfl B.range_ (pa_cons (pv 6) pa_nil)) (blkOk_by (N := N__law_twist) (sc := (defScope s__law_twist)) (by decide +kernel)) (fun _ _ _ _ _ => (pg_name (i := 12) nd rfl (Or.inr rfl))) (fun _ _ _ _ _ => pts_nil) (fun _ _ _ _ _ => (pe_callTy (call_tupleK K) (by rfl) B.tuple_ (by decide +kernel) (pa_cons (pe_lc (own := [("_law_j", 10), ("_law_own", 11)]) rfl nd (pi_enumTK K rfl B.enumerate_ (pa_cons (pe_ix (ix_tupK K) (pv 0) pe_int (fun _ _ => rfl)) pa_nil)) (blkOk_by (N := N__law_twist) (sc := (relS _ (defScope s__law_twist))) (by decide +kernel)) (fun _ _ _ _ _ => (pg_tupK (n := 2) K rfl (pgs_cons (pg_name (i := 10) nd rfl (Or.inl rfl)) (pgs_cons (pg_name (i := 11) nd rfl (Or.inl rfl)) pgs_nil)))) (fun _ _ _ _ _ => pts_nil) (fun _ _ _ _ _ => (pe_ifExp (pt_cmpR op_eq (pv 11) (pv 6) (nomark _)) (pv 12) (pe_ix (ix_tupK K) (pv 9) (pv 10) (fun _ _ => rfl))))) pa_nil))))))))
      (pss_one (ps_set (i := 4) nd rfl (Or.inl rfl) (pv 8))))))
      (pss_cons (ps_par (i := 13) (j := 14) rfl nd rfl rfl (by decide) rfl rfl (pa_cons (pe_lc (own := [("_law_item", 15)]) rfl nd (pi_listK K (pv 4)) (blkOk_by (N := N__law_twist) (sc := (defScope s__law_twist)) (by decide +kernel)) (fun _ _ _ _ _ => (pg_name (i := 15) nd rfl (Or.inl rfl))) (fun _ _ _ _ _ => pts_nil) (fun _ _ _ _ _ => (pe_def D__law_factors (hr.mono (by decide)) (by rfl) (pa_cons (pv 0) (pa_cons (pv 15) pa_nil))))) (pa_cons pe_int pa_nil)) (by rfl))
      (pss_cons (ps_setLc (i := 16) (own := [("_law_q", 7)]) rfl nd rfl rfl (sw_true rfl rfl rfl (by decide +kernel)) (pi_listK K (pv 5)) (blkOk_by (N := N__law_twist) (sc := (defScope s__law_twist)) (by decide +kernel)) (fun _ _ _ _ _ => (pg_name (i := 7) nd rfl (Or.inl rfl))) (fun _ _ _ _ _ => pts_nil) (fun _ _ _ _ _ => (pe_tixK K (pe_tix (pe_ix (ix_tupK K) (pv 0) pe_int (fun _ _ => rfl)) (pv 7)))))
      (pss_cons (ps_for PassesOwn.never rfl (pi_enumK K rfl B.enumerate_ (pa_cons (pv 4) pa_nil)) (pg_tupK (n := 2) K rfl (pgs_cons (pg_name (i := 10) nd rfl (Or.inl rfl)) (pgs_cons (pg_name (i := 15) nd rfl (Or.inr rfl)) pgs_nil))) (pss_one (ps_if (pt_cmpR (op_eqDK K hr.units) (pe_lc (own := [("_law_k", 17)]) rfl nd (pi_range1 rfl B.range_ (pa_cons (pe_callB (call_lenK K) (by rfl) B.len_ (by decide +kernel) (pa_cons (pv 15) pa_nil)) pa_nil)) (blkOk_by (N := N__law_twist) (sc := (defScope s__law_twist)) (by decide +kernel)) (fun _ _ _ _ _ => (pg_name (i := 17) nd rfl (Or.inl rfl))) (fun _ _ _ _ _ => pts_one (pt_cmpR op_ne (pe_op op_mod (pe_callTy call_intK (by rfl) B.int_ (by decide +kernel) (pa_cons (pe_op op_mul (pe_ix (ix_tupK K) (pv 15) (pv 17) (fun _ _ => rfl)) (pe_op op_sub (pv 1) pe_int)) pa_nil)) (pe_ix (ix_tupK K) (pe_ix (ix_tupK K) (pv 0) pe_int (fun _ _ => rfl)) (pv 17) (fun _ _ => rfl))) pe_int (nomark _))) (fun _ _ _ _ _ => (pv 17))) (pe_lst pa_nil) (nomark _)) (pss_one (ps_for PassesOwn.never rfl (pi_listK K (pv 13)) (pg_name (i := 8) nd rfl (Or.inl rfl)) (pss_cons (ps_set (i := 18) nd rfl (Or.inl rfl) pe_int)
      (pss_cons (ps_for PassesOwn.never rfl (pi_listK K (pv 16)) (pg_name (i := 19) nd rfl (Or.inl rfl)) (pss_cons (ps_set (i := 7) nd rfl (Or.inl rfl) (pe_ix (ix_tupK K) (pe_ix (ix_tupK K) (pv 0) pe_int (fun _ _ => rfl)) (pv 19) (fun _ _ => rfl)))
      (pss_cons (ps_set (i := 20) nd rfl (Or.inl rfl) (pe_and (pe_cmpR op_eq (pe_ix (ix_listK K) (pe_ix (ix_listK K) (pv 13) (pv 10) (fun _ _ => rfl)) (pv 19) (fun _ _ => rfl)) pe_int (nomark _)) (pe_one (pe_cmpR op_eq (pe_op op_mod (pe_callTy call_intK (by rfl) B.int_ (by decide +kernel) (pa_cons (pe_op op_sub (pe_ix (ix_listK K) (pv 8) (pv 19) (fun _ _ => rfl)) (pv 1)) pa_nil)) (pv 7)) pe_int (nomark _)))))
      (pss_one (ps_set (i := 18) nd rfl (Or.inl rfl) (pe_op op_mul (pv 18) (pe_ifExp (pt_val (pv 20)) (pe_op op_mul (pv 7) (pv 7)) (pv 7))))))))
      (pss_one (ps_set (i := 14) nd rfl (Or.inl rfl) (pe_op op_add (pv 14) (pv 18)))))))) pss_nil)))
      (pss_cons (ps_for PassesOwn.never rfl (pi_tupK K (pe_ix (ix_tupK K) (pv 0) pe_int (fun _ _ => rfl))) (pg_name (i := 6) nd rfl (Or.inr rfl)) (pss_one (ps_if (PW.pt (pw_and (pt_cmpR (op_notInK K) (pv 6) (pv 2) (rfl)) (pw_and1 (pt_cmpR (op_notInK K) (pv 6) (pv 5) (rfl))))) (pss_one (ps_set (i := 14) nd rfl (Or.inl rfl) (pe_op op_mul (pv 14) (pe_ifExp (pt_cmpR op_eq (pe_op op_mod (pe_callTy call_intK (by rfl) B.int_ (by decide +kernel) (pa_cons (pe_op op_sub (pv 1) pe_int) pa_nil)) (pv 6)) pe_int (nomark _)) (pe_op op_mul (pv 6) (pv 6)) (pv 6))))) pss_nil)))
      (pss_one (ps_ret (pv 14)))))))))), body_ok (N := N__law_twist) h fun x hp => ?_⟩
  obtain ⟨T, r⟩ := x
  obtain ⟨hw, hl, hb⟩ := hp
  dsimp only at hw hl hb
  show DS _ [.d (dTab T), .d (.int r), .un, .un, .un, .un, .un, .un, .un, .un, .un, .un, .un, .un, .un, .un, .un, .un, .un, .un, .un] _
  have pl := hw.pl
  have wl := web_len hw
  have ml := hw.ml
  have mop : ∀ m ∈ movers T, 2 ≤ m ∧ m ≤ 31 := fun m hm => ps_of hw (mover_in hw hm)
  obtain ⟨iok, ilen⟩ := items_ok hw
  have il : (itemsM T).length ≤ 1000 := by omega
  have mvp : ∀ q ∈ mvL T, 2 ≤ q ∧ q ≤ 31 := fun q hq => ps_of hw (mvL_in hw q hq)
  have mvlen : (web T).length ≤ 60 := by omega
  -- the count of items so far
  have part : ∀ i, ((movers T).take i).foldl (fun acc p => acc.flatMap (spread T p)) [List.replicate T.1.length 0] = itemsM (T.1, T.2.take i) ∨ True := fun _ => .inr trivial
  apply ds_seq
  apply ds_par (d1 := dLI (movers T)) (d2 := dTI (List.replicate T.1.length 0))
  · apply da_cons
    · repeat' walk_at "s"
    apply da_cons
    · refine DV.cast (dv_op (dv_tup1 dv_int) (dv_cb (da_cons (dv_op (dv_var rfl) dv_int (ov_ixT (f := dFI T.1) rfl rfl)) da_nil) (cv_lenK rfl)) (ov_repT (d := .int 0) (by rw [List.length_map]; omega) (by rw [List.length_map]; omega))) (by rw [List.length_map, show dTI (List.replicate T.1.length 0) = .tup (List.replicate T.1.length (.int 0)) from congrArg D.tup List.map_replicate] <;> rfl)
    · exact da_nil
  apply ds_seq
  apply ds_par (d1 := .lst ([List.replicate T.1.length 0].map dTI)) (d2 := dLI (mvL T))
  · apply da_cons
    · exact (dl_lst (da_cons (dv_var rfl) da_nil) (by simp)).v
    apply da_cons
    · refine DL.v (dl_sortset (ns := (web T).map (·.2)) ?_ (by rw [List.length_map]; exact mvlen))
      apply da_cons
      · refine dl_lcE0 (web T) dPr (fun e => [(6, .int e.1), (7, .int e.2)]) (·.2) D.int (di_tup (d := dWeb (web T)) ?_ rfl) (fun _ _ => dg_tup rfl (dgs_cons (dgs_cons dgs_nil))) (fun _ _ => rfl) (fun e _ => ?_) (by omega)
        all_goals repeat' walk_at "s"
      · exact da_nil
    · exact da_nil
  apply ds_seq
  refine ds_for (movers T) D.int (fun p => [(6, .int p)]) (fun i s => ∃ a6 a8 a9 acc, s = [.d (dTab T), .d (.int r), .d (dLI (movers T)), .d (dTI (List.replicate T.1.length 0)), .d (.lst (acc.map dTI)), .d (dLI (mvL T)), a6, .un, a8, a9, .un, .un, .un, .un, .un, .un, .un, .un, .un, .un, .un] ∧ acc = ((movers T).take i).foldl (fun acc p => acc.flatMap (spread T p)) [List.replicate T.1.length 0]) (di_list ?_) (fun _ _ => dg_name) ⟨_, _, _, _, rfl, rfl⟩ ?_ ?_
  · repeat' walk_at "s"
  · rintro i p s hi ⟨a6, a8, a9, acc, rfl, hacc⟩
    have hp2 := mop p (mem_at hi)
    -- every item so far is right, and they are few
    have itk : (∀ y ∈ acc, ItOk T y) ∧ acc.length * p.toNat ≤ 1000 := by
      have sub : ∀ m ∈ (movers T).take i, 2 ≤ m ∧ m ≤ 31 := fun m hm => mop m (List.mem_of_mem_take hm)
      have z : ∀ y ∈ [List.replicate T.1.length (0 : Int)], ItOk T y := fun y hy => by
        rw [List.mem_singleton.mp hy]
        exact ⟨List.length_replicate, fun v hv => by rw [List.eq_of_mem_replicate hv]; decide⟩
      obtain ⟨a, b⟩ := items_go (T := T) ((movers T).take i) [List.replicate T.1.length 0] sub z
      have sub2 : ∀ m ∈ (movers T).take (i + 1), 2 ≤ m ∧ m ≤ 31 := fun m hm => mop m (List.mem_of_mem_take hm)
      obtain ⟨a2, b2⟩ := items_go (T := T) ((movers T).take (i + 1)) [List.replicate T.1.length 0] sub2 z
      rw [← hacc] at a b
      refine ⟨a, ?_⟩
      have pm : prodI (movers T) = prodI ((movers T).take (i + 1)) * ((movers T).drop (i + 1)).foldl (· * ·) 1 := by
        have mulgo : ∀ (ns : List Int) (a : Int), ns.foldl (· * ·) a = a * ns.foldl (· * ·) 1 := fun ns => by
          induction ns with
          | nil => exact fun a => (Int.mul_one a).symm
          | cons n ns ih =>
            intro a
            rw [List.foldl_cons, List.foldl_cons, ih, ih (1 * n), Int.one_mul, Int.mul_assoc]
        have := mulgo ((movers T).drop (i + 1)) (prodI ((movers T).take (i + 1)))
        rw [← this]
        unfold prodI
        rw [← List.foldl_append, List.take_append_drop]
      have d1 : 1 ≤ ((movers T).drop (i + 1)).foldl (· * ·) 1 := by
        have pos : ∀ (ns : List Int) (a : Int), 1 ≤ a → (∀ n ∈ ns, 2 ≤ n ∧ n ≤ 31) → 1 ≤ ns.foldl (· * ·) a := fun ns => by
          induction ns with
          | nil => exact fun a h _ => h
          | cons n ns ih =>
            intro a h hn
            refine ih (a * n) ?_ fun x hx => hn x (List.mem_cons_of_mem _ hx)
            have := Int.mul_le_mul h (show (1 : Int) ≤ n by have := hn n List.mem_cons_self; omega) (by decide) (by omega)
            omega
        exact pos _ 1 (by decide) fun n hn => mop n (List.mem_of_mem_drop hn)
      have p0 : 0 ≤ prodI ((movers T).take (i + 1)) := prodI_nn _ fun n hn => by have := sub2 n hn; omega
      have le : prodI ((movers T).take (i + 1)) ≤ prodI (movers T) := by
        rw [pm]
        have := Int.mul_le_mul_of_nonneg_left d1 p0
        rw [Int.mul_one] at this
        exact this
      rw [take_snoc hi, prodI_snoc] at le
      have e1 : (acc.length : Int) = prodI ((movers T).take i) := by rw [b]; show ((1 : Nat) : Int) * _ = _; omega
      rw [← e1] at le
      have e2 : ((acc.length * p.toNat : Nat) : Int) = acc.length * p := by rw [Int.natCast_mul, Int.toNat_of_nonneg (by omega)]
      omega
    apply ds_seq
    apply ds_set (d := .lst ((((acc.take 0).flatMap (spread T p))).map dTI))
    · exact dv_emp dTI
    apply ds_seq
    refine ds_for acc dTI (fun y => [(9, dTI y)]) (fun j s => ∃ a9, s = [.d (dTab T), .d (.int r), .d (dLI (movers T)), .d (dTI (List.replicate T.1.length 0)), .d (.lst (acc.map dTI)), .d (dLI (mvL T)), .d (.int p), .un, .d (.lst ((((acc.take j).flatMap (spread T p))).map dTI)), a9, .un, .un, .un, .un, .un, .un, .un, .un, .un, .un, .un]) (di_list ?_) (fun _ _ => dg_name) ⟨_, rfl⟩ ?_ ?_
    · repeat' walk_at "s"
    · rintro j y s hj ⟨a9, rfl⟩
      have yo := itk.1 y (mem_at hj)
      have jl : j < acc.length := (List.getElem?_eq_some_iff.mp hj).1
      have fl : ∀ xs : List (List Int), (xs.flatMap (spread T p)).length = xs.length * p.toNat := fun xs => by
        induction xs with
        | nil => simp
        | cons x xs ih =>
          rw [List.flatMap_cons, List.length_append, ih, List.length_cons, Nat.succ_mul, Nat.add_comm]
          congr 1
          unfold spread
          rw [List.length_map, List.length_range]
      have fb : ((acc.take j).flatMap (spread T p)).length ≤ 1000 := by
        rw [fl, List.length_take]
        exact Nat.le_trans (Nat.mul_le_mul_right _ (by omega)) itk.2
      apply ds_set (d := .lst ((((acc.take (j + 1)).flatMap (spread T p))).map dTI))
      · rw [take_snoc hj, List.flatMap_append, List.flatMap_cons, List.flatMap_nil, List.append_nil, List.map_append]
        apply dv_op
        · exact dv_var rfl
        · refine dl_lcE0 (List.range p.toNat) (fun i => .int (0 + (i : Int))) (fun i => [(12, .int (0 + (i : Int)))]) (fun (i : Nat) => putY T p y (0 + (i : Int))) dTI (di_rng1 ?_ ⟨by omega, by omega⟩) (fun _ _ => dg_name) (fun _ _ => rfl) (fun v _ => ?_) (by rw [List.length_range]; omega)
          · repeat' walk_at "s"
          · apply dv_cb
            · apply da_cons
              · refine dl_lcE0 T.1.zipIdx (fun e => .tup [.int (e.2 : Nat), .int e.1]) (fun e => [(10, .int (e.2 : Nat)), (11, .int e.1)]) (fun e => if e.1 = p then (0 + (v : Int)) else y.getD e.2 0) D.int ?_ (fun _ _ => dg_tup rfl (dgs_cons (dgs_cons dgs_nil))) (fun _ _ => rfl) (fun e he => ?_) (by rw [List.length_zipIdx]; omega)
                · rw [← enum_map D.int T.1]
                  exact di_enumT (d := dFI T.1) (da_cons (dv_op (dv_var rfl) dv_int (ov_ixT rfl rfl)) da_nil) rfl
                · obtain ⟨n, hn⟩ := List.getElem?_of_mem he
                  rw [List.getElem?_zipIdx] at hn
                  obtain ⟨x, hx, ee⟩ := Option.map_eq_some_iff.mp hn
                  have hl2 : n < y.length := by rw [yo.ln]; exact (List.getElem?_eq_some_iff.mp hx).1
                  subst ee
                  rw [Nat.zero_add]
                  dsimp only
                  apply dv_if (b := decide (x = p))
                  · repeat' walk_at "s"
                  · intro hb
                    rw [if_pos (of_decide_eq_true hb)]
                    exact dv_var rfl
                  · intro hb
                    rw [if_neg (of_decide_eq_false hb)]
                    exact dv_op (dv_var (d := dTI y) rfl) (dv_var (d := .int (n : Nat)) rfl) (ov_ixT rfl (atI_map (getD_at hl2)))
              · exact da_nil
            · exact cv_tupleK
        · refine (ol_cat ?_).v
          rw [List.length_map, List.length_map, List.length_map, List.length_range]
          omega
      · exact ⟨_, rfl⟩
    · rintro s ⟨a9, rfl⟩
      rw [List.take_length]
      apply ds_set
      · exact dv_var rfl
      · refine ⟨_, _, _, acc.flatMap (spread T p), rfl, ?_⟩
        rw [take_snoc hi, List.foldl_append, ← hacc] <;> rfl
  rintro s ⟨a6, a8, a9, acc, rfl, hacc⟩
  rw [List.take_length] at hacc
  have hacc : acc = itemsM T := hacc
  subst hacc
  apply ds_seq
  apply ds_par (d1 := .lst (((itemsM T).map (factM T)).map dLI)) (d2 := .int ((((itemsM T).take 0).map (rowT T r)).sum))
  · apply da_cons
    · refine dl_lcE0 (itemsM T) dTI (fun y => [(15, dTI y)]) (factM T) dLI (di_list ?_) (fun _ _ => dg_name) (fun _ _ => rfl) (fun y hy => ?_) (by omega)
      · repeat' walk_at "s"
      · have yo := iok y hy
        apply cl__law_factors
        · repeat' walk_at "s"
        · exact ⟨hw, yo.ln, fun k hk => by have := yo.bd k hk; omega⟩
    apply da_cons
    · exact dv_int
    · exact da_nil
  apply ds_seq
  apply ds_set (d := .lst (((mvL T).map fun q => ((idx T q : Nat) : Int)).map D.int))
  · refine dl_lcE0 (mvL T) D.int (fun q => [(7, .int q)]) (fun q => ((idx T q : Nat) : Int)) D.int (di_list ?_) (fun _ _ => dg_name) (fun _ _ => rfl) (fun q hq => ?_) ?_
    · repeat' walk_at "s"
    · refine dv_tix (ns := T.1) (k := q) ?_ ?_ (mvL_in hw q hq)
      · repeat' walk_at "s"
      · repeat' walk_at "s"
    · have go : ∀ xs : List Int, (sortU xs).length ≤ xs.length := fun xs => by
        induction xs with
        | nil => exact Nat.le_refl _
        | cons x xs ih =>
          have one : ∀ (k : Int) (ys : List Int), (insU k ys).length ≤ ys.length + 1 := fun k ys => by
            induction ys with
            | nil => exact Nat.le_refl _
            | cons y ys ih2 =>
              unfold insU
              split
              · exact Nat.le_refl _
              · split
                · exact Nat.le_succ _
                · exact Nat.succ_le_succ ih2
          have := one x (sortU xs)
          have e : sortU (x :: xs) = insU x (sortU xs) := rfl
          rw [e, List.length_cons]
          omega
      have := go ((web T).map (·.2))
      rw [List.length_map] at this
      unfold mvL
      omega
  apply ds_seq
  refine ds_forE (itemsM T) (enumD ((itemsM T).map dTI)) (fun i y => [(10, .int (i : Nat)), (15, dTI y)]) (fun i s => ∃ a7 a8 a10 a15 a18 a19 a20, s = [.d (dTab T), .d (.int r), .d (dLI (movers T)), .d (dTI (List.replicate T.1.length 0)), .d (.lst ((itemsM T).map dTI)), .d (dLI (mvL T)), a6, a7, a8, a9, a10, .un, .un, .d (.lst (((itemsM T).map (factM T)).map dLI)), .d (.int ((((itemsM T).take i).map (rowT T r)).sum)), a15, .d (.lst (((mvL T).map fun q => ((idx T q : Nat) : Int)).map D.int)), .un, a18, a19, a20]) (fun i y => .tup [.int (i : Nat), dTI y]) (di_enumL ?_) (enum_map _ _) (fun _ _ _ => dg_tup rfl (dgs_cons (dgs_cons dgs_nil))) ⟨_, _, _, _, _, _, _, rfl⟩ ?_ ?_
  · repeat' walk_at "s"
  · rintro i y s hi ⟨a7, a8, a10, a15, a18, a19, a20, rfl⟩
    have yo := iok y (mem_at hi)
    have fy : ((itemsM T).map (factM T))[i]? = some (factM T y) := by rw [List.getElem?_map, hi] <;> rfl
    apply ds_if (b := okY T r y)
    · apply dt_test
      apply dv_op
      · refine dl_lcE (List.range T.1.length) (fun i => .int (0 + (i : Int))) (fun i => [(17, .int (0 + (i : Int)))]) (fun k => !decide (y.getD k 0 * (r - 1) % T.1.getD k 0 = 0)) (fun (k : Nat) => (0 + (k : Int))) D.int ?_ (fun _ _ => dg_name) (fun _ _ => rfl) (fun k hk => ?_) (fun k hk _ => ?_) (by rw [List.length_range]; omega)
        · have e : ((List.range T.1.length).map fun (i : Nat) => D.int (0 + (i : Int))) = rangeD 0 ((((y.map D.int).length : Nat) : Int)).toNat := by
            rw [List.length_map, yo.ln]
            rfl
          rw [e]
          refine di_rng1 (da_cons (dv_cb (da_cons (dv_var rfl) da_nil) (cv_lenK (d := dTI y) rfl)) da_nil) (by rw [List.length_map, yo.ln]; omega)
        · have hk := List.mem_range.mp hk
          have ky : k < y.length := by rw [yo.ln]; exact hk
          have kb := yo.bd _ (mem_at (getD_at (d := 0) ky))
          have tb := ps_of hw (mem_at (getD_at (d := 0) hk))
          have zk : (0 : Int) + (k : Int) = ((k : Nat) : Int) := by omega
          apply DT.cast
          · apply dt_test
            apply dv_op
            · apply dv_op
              · apply dv_cb
                · apply da_cons
                  · apply dv_op
                    · exact dv_op (dv_var (d := dTI y) rfl) (dv_var (d := .int (0 + (k : Int))) rfl) (ov_ixT (f := .int (y.getD k 0)) rfl (by rw [zk]; exact atI_map (getD_at ky)))
                    · repeat' walk_at "s"
                    · exact ov_I (.inl ⟨by omega, by omega⟩)
                  · exact da_nil
                · exact cv_intK
              · exact dv_op (dv_op (dv_var rfl) dv_int (ov_ixT (f := dFI T.1) rfl rfl)) (dv_var (d := .int (0 + (k : Int))) rfl) (ov_ixT (f := .int (T.1.getD k 0)) rfl (by rw [zk]; exact atI_map (getD_at hk)))
              · exact ov_I (show 0 < T.1.getD k 0 by omega)
            · exact dv_int
            · exact ov_neI
          · rfl
        · exact dv_var rfl
      · exact dv_emp D.int
      · refine ov_cast (ov_eqLL eqInt (by decide)) ?_
        unfold okY
        refine congrArg _ (decide_eq_decide.mpr ?_)
        rw [List.map_eq_nil_iff]
    · intro hb2
      refine ds_for (itemsM T) (fun z => dLI (factM T z)) (fun z => [(8, dLI (factM T z))]) (fun j s => ∃ a7 a8 a18 a19 a20, s = [.d (dTab T), .d (.int r), .d (dLI (movers T)), .d (dTI (List.replicate T.1.length 0)), .d (.lst ((itemsM T).map dTI)), .d (dLI (mvL T)), a6, a7, a8, a9, .d (.int (i : Nat)), .un, .un, .d (.lst (((itemsM T).map (factM T)).map dLI)), .d (.int ((((itemsM T).take i).map (rowT T r)).sum + (((itemsM T).take j).map fun z => hereM T r (factM T y) (factM T z)).sum)), .d (dTI y), .d (.lst (((mvL T).map fun q => ((idx T q : Nat) : Int)).map D.int)), .un, a18, a19, a20]) (di_list ?_) (fun _ _ => dg_name) ⟨a7, a8, a18, a19, a20, by rw [List.take_zero, List.map_nil, List.sum_nil, Int.add_zero] <;> rfl⟩ ?_ ?_
      · refine DV.cast (dv_var rfl) ?_
        rw [List.map_map] <;> rfl
      · rintro j z s hj ⟨a7, a8, a18, a19, a20, rfl⟩
        apply ds_seq
        apply ds_set
        · exact dv_int
        apply ds_seq
        refine ds_for (mvL T) (fun q => .int ((idx T q : Nat) : Int)) (fun q => [(19, .int ((idx T q : Nat) : Int))]) (fun k s => ∃ a7 a19 a20, s = [.d (dTab T), .d (.int r), .d (dLI (movers T)), .d (dTI (List.replicate T.1.length 0)), .d (.lst ((itemsM T).map dTI)), .d (dLI (mvL T)), a6, a7, .d (dLI (factM T z)), a9, .d (.int (i : Nat)), .un, .un, .d (.lst (((itemsM T).map (factM T)).map dLI)), .d (.int ((((itemsM T).take i).map (rowT T r)).sum + (((itemsM T).take j).map fun z => hereM T r (factM T y) (factM T z)).sum)), .d (dTI y), .d (.lst (((mvL T).map fun q => ((idx T q : Nat) : Int)).map D.int)), .un, .d (.int (((mvL T).take k).foldl (stepH T r (factM T y) (factM T z)) 1)), a19, a20]) (di_list ?_) (fun _ _ => dg_name) ⟨_, _, _, rfl⟩ ?_ ?_
        · refine DV.cast (dv_var rfl) ?_
          rw [List.map_map] <;> rfl
        · rintro k q s hk ⟨a7, a19, a20, rfl⟩
          have hq := mvL_in hw q (mem_at hk)
          have q2 := mvp q (mem_at hk)
          have ql := idx_lt hq
          have lz : idx T q < (factM T z).length := by rw [factM_len]; exact ql
          have ly : idx T q < (factM T y).length := by rw [factM_len]; exact ql
          have sq : q * q ≤ 31 * 31 := Int.mul_le_mul q2.2 q2.2 (by omega) (by decide)
          have sq0 : 0 ≤ q * q := Int.mul_nonneg (by omega) (by omega)
          have tq : T.1[idx T q]? = some q := by
            rw [List.getElem?_eq_getElem ql]
            exact congrArg some (List.getElem_idxOf ql)
          apply ds_seq
          apply ds_set (d := .int q)
          · exact dv_op (dv_op (dv_var rfl) dv_int (ov_ixT (f := dFI T.1) rfl rfl)) (dv_var (d := .int ((idx T q : Nat) : Int)) rfl) (ov_ixT rfl (atI_map tq))
          apply ds_seq
          apply ds_set (d := .bl (decide ((factM T y).getD (idx T q) 0 = 1) && decide (((factM T z).getD (idx T q) 0 - r) % q = 0)))
          · apply dv_and
            · apply dv_op
              · apply dv_op
                · exact dv_op (dv_var (d := .lst (((itemsM T).map (factM T)).map dLI)) rfl) (dv_var (d := .int ((i : Nat) : Int)) rfl) (ov_ixL (atI_map fy))
                · exact dv_var rfl
                · exact ov_ixL (atI_map (getD_at (d := 0) ly))
              · exact dv_int
              · exact ov_eqI
            · intro _
              apply dv_op
              · apply dv_op
                · apply dv_cb
                  · apply da_cons
                    · apply dv_op
                      · exact dv_op (dv_var (d := dLI (factM T z)) rfl) (dv_var (d := .int ((idx T q : Nat) : Int)) rfl) (ov_ixL (atI_map (getD_at (d := 0) lz)))
                      · exact dv_var rfl
                      · exact ov_I0
                    · exact da_nil
                  · exact cv_intK
                · exact dv_var rfl
                · exact ov_I (show 0 < q by omega)
              · exact dv_int
              · exact ov_eqI
          apply ds_set (d := .int (stepH T r (factM T y) (factM T z) (((mvL T).take k).foldl (stepH T r (factM T y) (factM T z)) 1) q))
          · apply dv_op
            · exact dv_var rfl
            · apply dv_if (b := decide ((factM T y).getD (idx T q) 0 = 1) && decide (((factM T z).getD (idx T q) 0 - r) % q = 0)) (d := .int (if (factM T y).getD (idx T q) 0 = 1 ∧ ((factM T z).getD (idx T q) 0 - r) % q = 0 then q * q else q))
              · apply dt_B
                exact dv_var rfl
              · intro hb3
                rw [if_pos (by simpa using hb3)]
                exact dv_op (dv_var rfl) (dv_var rfl) (ov_I (.inl ⟨by omega, by omega⟩))
              · intro hb3
                rw [if_neg (by simpa using hb3)]
                exact dv_var rfl
            · exact ov_I (.inr (by split <;> omega))
          · exact ⟨_, _, _, by rw [take_snoc hk, List.foldl_append] <;> rfl⟩
        · rintro s ⟨a7, a19, a20, rfl⟩
          rw [List.take_length]
          apply ds_set
          · exact dv_op (dv_var rfl) (dv_var rfl) ov_I0
          · exact ⟨_, _, _, _, _, by rw [sum_snoc hj, ← Int.add_assoc] <;> rfl⟩
      · rintro s ⟨a7, a8, a18, a19, a20, rfl⟩
        exact ⟨_, _, _, _, _, _, _, by rw [sum_snoc hi, List.take_length, rowT, if_pos hb2]⟩
    · intro hb2
      apply ds_nx
      exact ⟨_, _, _, _, _, _, _, by rw [sum_snoc hi, rowT, if_neg (by rw [hb2]; exact Bool.false_ne_true), Int.add_zero] <;> rfl⟩
  rintro s ⟨a7, a8, a10, a15, a18, a19, a20, rfl⟩
  rw [List.take_length]
  apply ds_seq
  refine ds_for T.1 D.int (fun p => [(6, .int p)]) (fun i s => ∃ a6, s = [.d (dTab T), .d (.int r), .d (dLI (movers T)), .d (dTI (List.replicate T.1.length 0)), .d (.lst ((itemsM T).map dTI)), .d (dLI (mvL T)), a6, a7, a8, a9, a10, .un, .un, .d (.lst (((itemsM T).map (factM T)).map dLI)), .d (.int ((T.1.take i).foldl (lastF T r) ((itemsM T).map (rowT T r)).sum)), a15, .d (.lst (((mvL T).map fun q => ((idx T q : Nat) : Int)).map D.int)), .un, a18, a19, a20]) (di_tup (d := dFI T.1) ?_ rfl) (fun _ _ => dg_name) ⟨_, rfl⟩ ?_ ?_
  · repeat' walk_at "s"
  · rintro i p s hi ⟨a6, rfl⟩
    have p2 := ps_of hw (mem_at hi)
    have sq : p * p ≤ 31 * 31 := Int.mul_le_mul p2.2 p2.2 (by omega) (by decide)
    have sq0 : 0 ≤ p * p := Int.mul_nonneg (by omega) (by omega)
    apply ds_if (b := !decide (p ∈ movers T) && !decide (p ∈ mvL T))
    · apply dt_and
      · apply dt_test
        exact dv_op (dv_var rfl) (dv_var rfl) (ov_notIn rfl)
      · intro _
        apply dt_test
        exact dv_op (dv_var rfl) (dv_var rfl) (ov_notIn rfl)
    · intro hb2
      apply ds_set (d := .int (lastF T r ((T.1.take i).foldl (lastF T r) ((itemsM T).map (rowT T r)).sum) p))
      · unfold lastF
        rw [if_pos (by simpa using hb2)]
        apply dv_op
        · exact dv_var rfl
        · apply dv_if (b := decide ((r - 1) % p = 0)) (d := .int (if (r - 1) % p = 0 then p * p else p))
          · repeat' walk_at "s"
          · intro hb3
            rw [if_pos (of_decide_eq_true hb3)]
            repeat' walk_at "s"
          · intro hb3
            rw [if_neg (of_decide_eq_false hb3)]
            repeat' walk_at "s"
        · exact ov_I (.inr (by split <;> omega))
      · exact ⟨_, by rw [take_snoc hi, List.foldl_append] <;> rfl⟩
    · intro hb2
      apply ds_nx
      have hl2 : lastF T r ((T.1.take i).foldl (lastF T r) ((itemsM T).map (rowT T r)).sum) p = (T.1.take i).foldl (lastF T r) ((itemsM T).map (rowT T r)).sum := by
        rw [lastF, if_neg (by simpa using hb2)]
      exact ⟨.d (.int p), by rw [take_snoc hi, List.foldl_append, List.foldl_cons, List.foldl_nil, hl2] <;> rfl⟩
  · rintro s ⟨a6, rfl⟩
    rw [List.take_length]
    apply ds_ret
    · exact dv_var rfl
    · rfl
theorem cl__law_twist {T : Tab} {r : Int} (h : DA tr sl [dTab T, .int r]) (hp : WF T ∧ 2 ≤ T.1.length ∧ prodI (movers T) ≤ 1000) : DV (tCall sp__law_twist [] E tr) sl (.int (twL T r)) := dv_call0 (enc := fun x : Tab × Int => [dTab x.1, .int x.2]) (T, r) h hp
local macro_rules | `(tactic| walk_at "s") => `(tactic| with_reducible apply cl__law_twist)
end
end Wa
set_option maxHeartbeats 4000000
namespace Wa
open PySem PySem.Spec PyProof.Rows L2
local macro_rules | `(tactic| walk_at "s") => `(tactic| first
  | with_reducible exact dv_int | with_reducible exact dv_bl | with_reducible exact dv_str | with_reducible exact dv_non
  | ((with_reducible apply dv_var); first | rfl | (show _ = _; assumption))
  | with_reducible apply dv_op
  | with_reducible apply da_cons | with_reducible exact da_nil
  | with_reducible apply dv_tup2 | with_reducible apply dv_tup1 | with_reducible apply dv_tup3 | with_reducible exact dv_tup0
  | with_reducible apply dv_isN | with_reducible apply dv_notN
  | with_reducible apply dt_test | with_reducible apply dt_B | with_reducible exact dt_yes
  | with_reducible apply (dt_and ?_ fun _ => ?_) | with_reducible apply (dt_or ?_ fun _ => ?_) | with_reducible apply dt_not
  | with_reducible apply (dv_and ?_ fun _ => ?_) | with_reducible apply dv_not
  | with_reducible apply (dv_chain (g := D.non) ?_ ?_ ?_ (fun _ => ?_) (fun _ => ?_))
  | with_reducible exact ov_I0 | with_reducible exact ov_B0 | ((with_reducible apply ov_I); first | (show 0 < _; omega) | (unfold CDiv; omega) | (unfold CMul; omega) | (unfold CDivN; omega) | skip)
  | with_reducible exact ov_eqI | with_reducible exact ov_neI | with_reducible exact ov_eqB | with_reducible exact ov_eqS | with_reducible exact ov_notB
  | with_reducible exact ov_isN | with_reducible exact ov_notN
  | with_reducible apply dv_neg
  | with_reducible apply dv_isInt | with_reducible apply dv_isBool
  | with_reducible apply dv_cb
  | (with_reducible exact cv_tupleK) | (with_reducible exact cv_tupF) | (with_reducible exact cv_intK) | (with_reducible exact cv_sum) | (with_reducible exact cv_all) | (with_reducible exact cv_any) | ((with_reducible apply cv_lenK); rfl)
  | (exact ov_ixT rfl rfl) | (exact ov_ixL rfl)
  | with_reducible apply dv_din | with_reducible apply dv_dnotin
  | (show D.items _ = some _; rfl) | (show D.seq _ = some _; rfl) | ((show WF _); assumption))
local macro_rules | `(tactic| walk_at "s") => `(tactic| first | with_reducible apply cl_power_in | with_reducible apply cl_size_in | with_reducible apply cl_weight_of | with_reducible apply cl_rows_in | with_reducible apply cl_web_in | with_reducible apply cl_movers_in | with_reducible apply cl_moved_in | with_reducible apply cl_still_in | with_reducible apply cl_moved_by | with_reducible apply cl_movers_on | with_reducible apply cl_struck_by | with_reducible apply cl_subsets_of | with_reducible apply cl_cut_in | with_reducible apply cl_log_in | with_reducible apply cl_row_power | with_reducible apply cl_power_in_rows | with_reducible apply cl_alike_in | with_reducible apply cl_is_undivided | with_reducible apply cl_is_whole_number | with_reducible apply cl_is_count | with_reducible apply cl_is_small_prime | with_reducible apply cl_is_pair | with_reducible apply cl_are_rising | with_reducible apply cl_are_primes_among | with_reducible apply cl_prime_fault | with_reducible apply cl_move_fault | with_reducible apply cl_row_fault | with_reducible apply cl_table_fault | with_reducible apply cl_want2 | with_reducible apply cl_want_table1 | with_reducible apply cl_want_table2 | with_reducible apply cl_want_primes2 | with_reducible apply cl_want_both | with_reducible apply cl_are_alike | with_reducible apply cl_moved_out | with_reducible apply cl_parts_in | with_reducible apply cl_part_count | with_reducible apply cl_is_like_part | with_reducible apply cl_alike_parts_in | with_reducible apply cl_parts_alike | with_reducible apply cl_cut_to | with_reducible apply cl_other_moved | with_reducible apply cl_twisted_in | with_reducible apply cl_twisted_count | with_reducible apply cl__law_up | with_reducible apply cl__law_roots | with_reducible apply cl__law_movers | with_reducible apply cl__law_row | with_reducible apply cl__law_web | with_reducible apply cl__law_power_between | with_reducible apply cl__law_are_alike | with_reducible apply cl__law_cut | with_reducible apply cl__law_threes | with_reducible apply cl__law_many | with_reducible apply cl__law_factors | with_reducible apply cl__law_twist )
section
variable {S : Option Addr} {F G H : Hp} {σ : L2.St} {sl : List Sl} {P : Post} {te ta tb : TE} {i j : Nat}
theorem ds_parEE {P1 P2 : D → Prop} (h1 : DE ta sl P1) (h2 : DE tb sl P2) (k : ∀ d e, P1 d → P2 e → P.nx ((sl.set i (.d d)).set j (.d e))) : DS (tPar i j (tCons ta (tCons tb tNil))) sl P := fun S F G H σ E st fin =>
  h1 S G H σ st.e _ fun G1 H1 v d s1 so r1 pd => h2 S G1 H1 σ (st.e.step s1 so) _ fun G2 H2 w e s2 so2 r2 pe => by
    refine ⟨_, _, rfl, ?_⟩
    have a := ((st.step s1 so).step s2 so2).set1 (i := i) (r1.mono s2.gg)
    have b := a.set1 (i := j) r2
    exact fin.nx G2 _ _ _ (s1.gg.tr s2.gg) b (k d e pd pe)
theorem StS.srcMut (h : StS S F G H σ sl) {a : Addr} (ea : S = some a) {l : Addr} {cs : List Int} {s r t : Int} (hl : G l = some (.lst (cs.map V.int))) (hs : 0 ≤ s) (hr : 0 ≤ r) (ga : G a = none) : StS S F G (upd H a (.dK (srcKv l s r t))) σ sl := by
  refine ⟨⟨fun b u e => ?_, h.e.len, fun m x e => ?_, fun b eb => ?_, h.e.ap⟩, ⟨h.pr.fg, fun b u e => ?_⟩, h.own⟩
  · rw [upd_ne (ne_of_none e ga)]
    exact h.e.gh b u e
  · have q := h.e.sls m x e
    cases x with
    | un => trivial
    | d w => exact q
    | src => exact q
    | ml xs =>
      obtain ⟨p', vs, e1, g, s', h', r'⟩ := q
      have n : p' ≠ a := fun z => s' (by rw [ea, z])
      exact ⟨p', vs, e1, g, s', by rw [upd_ne n]; exact h', r'⟩
    | md ks =>
      obtain ⟨p', vs, e1, g, s', h', r'⟩ := q
      have n : p' ≠ a := fun z => s' (by rw [ea, z])
      exact ⟨p', vs, e1, g, s', by rw [upd_ne n]; exact h', r'⟩
  · rw [ea] at eb
    cases eb
    exact ⟨ga, l, cs, s, r, t, upd_same, hl, hs, hr⟩
  · obtain ⟨o', e', k⟩ := h.pr.fh b u e
    by_cases n : b = a
    · subst n
      exact ⟨_, upd_same, fun q => absurd ea q⟩
    · exact ⟨o', by rw [upd_ne n]; exact e', k⟩
theorem de_turn (hi : sl[i]? = some .src) : DE (tDGet (tVar i) (tC (.str "turn"))) sl (fun d => ∃ n, d = .int n) := fun S G H σ st Q q => by
  obtain ⟨a, ea, es⟩ := st.sls i _ hi
  obtain ⟨ga, l, cs, s, r, t, ha, hl, hs, hr⟩ := st.src a ea
  exact ⟨_, es, _, .int t, rfl, .inl ⟨_, Sum.inr "turn", .inl ha, rfl, rfl⟩, q G H _ _ (Step.id st.gh) st.src (.int t) ⟨t, rfl⟩⟩
theorem de_rest (hi : sl[i]? = some .src) : DE (tDGet (tVar i) (tC (.str "rest"))) sl (fun d => ∃ n, 0 ≤ n ∧ d = .int n) := fun S G H σ st Q q => by
  obtain ⟨a, ea, es⟩ := st.sls i _ hi
  obtain ⟨ga, l, cs, s, r, t, ha, hl, hs, hr⟩ := st.src a ea
  exact ⟨_, es, _, .int r, rfl, .inl ⟨_, Sum.inr "rest", .inl ha, rfl, rfl⟩, q G H _ _ (Step.id st.gh) st.src (.int r) ⟨r, hr, rfl⟩⟩
theorem de_spot (hi : sl[i]? = some .src) : DE (tDGet (tVar i) (tC (.str "spot"))) sl (fun d => ∃ n, 0 ≤ n ∧ d = .int n) := fun S G H σ st Q q => by
  obtain ⟨a, ea, es⟩ := st.sls i _ hi
  obtain ⟨ga, l, cs, s, r, t, ha, hl, hs, hr⟩ := st.src a ea
  exact ⟨_, es, _, .int s, rfl, .inl ⟨_, Sum.inr "spot", .inl ha, rfl, rfl⟩, q G H _ _ (Step.id st.gh) st.src (.int s) ⟨s, hs, rfl⟩⟩
theorem de_cells (hi : sl[i]? = some .src) : DE (tDGet (tVar i) (tC (.str "cells"))) sl (fun d => ∃ cs : List Int, d = .lst (cs.map D.int)) := fun S G H σ st Q q => by
  obtain ⟨a, ea, es⟩ := st.sls i _ hi
  obtain ⟨ga, l, cs, s, r, t, ha, hl, hs, hr⟩ := st.src a ea
  exact ⟨_, es, _, .ref l, rfl, .inl ⟨_, Sum.inr "cells", .inl ha, rfl, rfl⟩, q G H _ _ (Step.id st.gh) st.src (.lst hl (RpA.of_ints cs)) ⟨cs, rfl⟩⟩
theorem ds_turn {Pd : D → Prop} (hi : sl[i]? = some .src) (h : DE te sl Pd) (hp : ∀ d, Pd d → ∃ n, d = .int n) (k : P.nx sl) : DS (sDPut (tVar i) (tC (.str "turn")) te) sl P := fun S F G H σ E st fin => by
  refine h S G H σ st.e _ fun G1 H1 v d s1 so rv pd => ?_
  obtain ⟨n, rfl⟩ := hp d pd
  cases rv
  obtain ⟨a, ea, es⟩ := st.e.sls i _ hi
  obtain ⟨ga, l, cs, s, r, t, ha, hl, hs, hr⟩ := so a ea
  exact ⟨_, es, _, _, rfl, DPut.k (k := Sum.inr "turn") ha (by show 4 < sizeLine; decide), fin.nx G1 _ _ _ s1.gg ((st.step s1 so).srcMut (s := s) (r := r) (t := n) ea hl hs hr ga) k⟩
theorem ds_rest {Pd : D → Prop} (hi : sl[i]? = some .src) (h : DE te sl Pd) (hp : ∀ d, Pd d → ∃ n, 0 ≤ n ∧ d = .int n) (k : P.nx sl) : DS (sDPut (tVar i) (tC (.str "rest")) te) sl P := fun S F G H σ E st fin => by
  refine h S G H σ st.e _ fun G1 H1 v d s1 so rv pd => ?_
  obtain ⟨n, hn, rfl⟩ := hp d pd
  cases rv
  obtain ⟨a, ea, es⟩ := st.e.sls i _ hi
  obtain ⟨ga, l, cs, s, r, t, ha, hl, hs, hr⟩ := so a ea
  exact ⟨_, es, _, _, rfl, DPut.k (k := Sum.inr "rest") ha (by show 4 < sizeLine; decide), fin.nx G1 _ _ _ s1.gg ((st.step s1 so).srcMut (s := s) (r := n) (t := t) ea hl hs hn ga) k⟩
theorem ds_spot {Pd : D → Prop} (hi : sl[i]? = some .src) (h : DE te sl Pd) (hp : ∀ d, Pd d → ∃ n, 0 ≤ n ∧ d = .int n) (k : P.nx sl) : DS (sDPut (tVar i) (tC (.str "spot")) te) sl P := fun S F G H σ E st fin => by
  refine h S G H σ st.e _ fun G1 H1 v d s1 so rv pd => ?_
  obtain ⟨n, hn, rfl⟩ := hp d pd
  cases rv
  obtain ⟨a, ea, es⟩ := st.e.sls i _ hi
  obtain ⟨ga, l, cs, s, r, t, ha, hl, hs, hr⟩ := so a ea
  exact ⟨_, es, _, _, rfl, DPut.k (k := Sum.inr "spot") ha (by show 4 < sizeLine; decide), fin.nx G1 _ _ _ s1.gg ((st.step s1 so).srcMut (s := n) (r := r) (t := t) ea hl hn hr ga) k⟩
theorem de_opII {r : R2} {P1 : D → Prop} {g : Int → Int → Int} (ha : DE ta sl P1) {m : Int} (hb : DV tb sl (.int m)) {R : Int → Prop} (k : ∀ y, P1 y → ∃ n, y = .int n ∧ OV r (.int n) (.int m) (.int (g n m)) ∧ R (g n m)) : DE (tOp r ta tb) sl (fun d => ∃ n, R n ∧ d = .int n) :=
  de_op1 ha hb fun y hy => by
    obtain ⟨n, rfl, o, q⟩ := k y hy
    exact ⟨_, o, _, q, rfl⟩
end
section
variable {P : Program} {w : World} {K : PySem.W.Frag} {mg : Str → Option Value} {base : Heap} {f : Addr} {fd : FuncData} {tv : Value} {sl : List Sl} {tr : TA} {E : XK}

abbrev s__law_draw : Stmt := topS 69
abbrev N__law_draw : List Str := ["_law_src", "_law_much", "_law_digit", "_law_nums", "_law_spot", "_law_num", "_law_mixed"]
theorem sc__law_draw : FnScope N__law_draw ["_law_src", "_law_much"] (defScope s__law_draw) := ⟨rfl, rfl, rfl, by decide +kernel, rfl, by decide +kernel, by decide +kernel⟩
def resDraw (m : Int) (d : D) : Prop := ∃ n, (0 ≤ n ∧ n < m) ∧ d = .int n
def sp__law_draw : Sp := spS (fun x : Int => [.int x]) (fun x => 1 ≤ x ∧ x < 10000) resDraw
theorem emod_bd (a : Int) {m : Int} (h : 1 ≤ m) : 0 ≤ a % m ∧ a % m < m := ⟨Int.emod_nonneg _ (by omega), Int.emod_lt_of_pos _ (by omega)⟩
theorem ok__law_draw  (B : Blt mg tv) (F : Fun K "_law_draw" "_law_draw" s__law_draw f fd) : FnOk P w K mg base CX0 1 f fd ["_law_src", "_law_much"] sp__law_draw := by
  have nd := sc__law_draw.nd
  refine F.ok (k := 0) sc__law_draw (fun vs H Q E h => spS_len (n:=1) (fun _ => rfl) h) (fun cdv A outer s H vs Q E hr h => ?_)
  refine ⟨_, (pss_cons (ps_dput (hu_of hr) (pv 0) pe_str (pe_op op_add (pe_dget (hu_of hr) (pv 0) pe_str (fun _ _ => rfl)) pe_int) rfl)
      (pss_cons (ps_if (pt_cmpR op_gt (pe_dget (hu_of hr) (pv 0) pe_str (fun _ _ => rfl)) pe_int (nomark _)) (pss_cons (ps_set (i := 2) nd rfl (Or.inl rfl) (pe_op op_mod (pe_callTy call_intK (by rfl) B.int_ (by decide +kernel) (pa_cons (pe_dget (hu_of hr) (pv 0) pe_str (fun _ _ => rfl)) pa_nil)) (pv 1)))
      (pss_cons (ps_dput (hu_of hr) (pv 0) pe_str (pe_op op_fdiv (pe_dget (hu_of hr) (pv 0) pe_str (fun _ _ => rfl)) (pv 1)) rfl)
      (pss_one (ps_ret (pv 2))))) pss_nil)
      (pss_cons (ps_par (i := 3) (j := 4) rfl nd rfl rfl (by decide) rfl rfl (pa_cons (pe_dget (hu_of hr) (pv 0) pe_str (fun _ _ => rfl)) (pa_cons (pe_dget (hu_of hr) (pv 0) pe_str (fun _ _ => rfl)) pa_nil)) (by rfl))
      (pss_cons (ps_dput (hu_of hr) (pv 0) pe_str (pe_op op_add (pv 4) pe_int) rfl)
      (pss_cons (ps_set (i := 5) nd rfl (Or.inl rfl) (pe_ifExp (pt_cmpR (op_neDK K hr.units) (pv 3) (pe_lst pa_nil) (nomark _)) (pe_ix (ix_listK K) (pv 3) (pe_op op_mod (pe_callTy call_intK (by rfl) B.int_ (by decide +kernel) (pa_cons (pv 4) pa_nil)) (pe_callB (call_lenK K) (by rfl) B.len_ (by decide +kernel) (pa_cons (pv 3) pa_nil))) (fun _ _ => rfl)) pe_int))
      (pss_cons (ps_if (PW.pt (pw_and (pt_cmpR op_ge (pv 5) (pe_op op_pow pe_int pe_int) (nomark _)) (pw_and1 (pt_cmpR op_lt (pv 4) (pe_callB (call_lenK K) (by rfl) B.len_ (by decide +kernel) (pa_cons (pv 3) pa_nil)) (nomark _))))) (pss_cons (ps_dput (hu_of hr) (pv 0) pe_str (pe_op op_fdiv (pv 5) (pv 1)) rfl)
      (pss_one (ps_ret (pe_op op_mod (pe_callTy call_intK (by rfl) B.int_ (by decide +kernel) (pa_cons (pv 5) pa_nil)) (pv 1))))) pss_nil)
      (pss_cons (ps_set (i := 6) nd rfl (Or.inl rfl) (pe_op op_mod (pe_callTy call_intK (by rfl) B.int_ (by decide +kernel) (pa_cons (pe_op op_add (pe_op op_add (pe_op op_mod (pe_callTy call_intK (by rfl) B.int_ (by decide +kernel) (pa_cons (pv 5) pa_nil)) pe_int) (pe_op op_mul pe_int (pe_dget (hu_of hr) (pv 0) pe_str (fun _ _ => rfl)))) pe_int) pa_nil)) pe_int))
      (pss_cons (ps_set (i := 6) nd rfl (Or.inl rfl) (pe_op op_mod (pe_callTy call_intK (by rfl) B.int_ (by decide +kernel) (pa_cons (pe_op op_add (pe_op op_add (pe_op op_mul (pv 6) (pv 6)) (pe_op op_mul pe_int (pe_dget (hu_of hr) (pv 0) pe_str (fun _ _ => rfl)))) pe_int) pa_nil)) pe_int))
      (pss_one (ps_ret (pe_op op_mod (pe_callTy call_intK (by rfl) B.int_ (by decide +kernel) (pa_cons (pe_op op_fdiv (pe_op op_mod (pe_callTy call_intK (by rfl) B.int_ (by decide +kernel) (pa_cons (pe_op op_add (pe_op op_mul (pv 6) (pv 6)) (pe_op op_mul pe_int (pv 6))) pa_nil)) pe_int) pe_int) pa_nil)) (pv 1)))))))))))), body_okS (N := N__law_draw) h fun x hp => ?_⟩
  obtain ⟨h1, h2⟩ := hp
  show DS _ [.src, .d (.int x), .un, .un, .un, .un, .un] _
  apply ds_seq
  refine ds_turn (i := 0) rfl (de_op1 (Q := fun d => ∃ n, d = .int n) (de_turn rfl) dv_int fun y ⟨n, e⟩ => ⟨.int (n + 1), e ▸ ov_I0, _, rfl⟩) (fun _ h => h) ?_
  apply ds_seq
  refine ds_ifE (Pb := fun _ => True) (dte_test (de_op1 (Q := fun d => ∃ b, d = .bl b) (de_rest rfl) dv_int fun y ⟨n, _, e⟩ => ⟨.bl (decide (0 < n)), e ▸ ov_B0, _, rfl⟩) fun d ⟨b, e⟩ => ⟨b, e, trivial⟩) (fun _ => ?_) (fun _ => ?_)
  · apply ds_seq
    refine ds_setE (Pd := resDraw x) (de_op1 (de_cb (Q := fun d => ∃ n, d = .int n) (de_rest rfl) fun y ⟨n, _, e⟩ => ⟨.int n, e ▸ cv_intK, _, rfl⟩) (dv_var rfl) fun y ⟨n, e⟩ => ⟨.int (n % x), e ▸ ov_I (show 0 < x by omega), n % x, emod_bd n h1, rfl⟩) fun d hd => ?_
    apply ds_seq
    refine ds_rest (i := 0) (Pd := fun d => ∃ n, 0 ≤ n ∧ d = .int n) rfl (de_op1 (de_rest rfl) (dv_var rfl) fun y ⟨n, hn, e⟩ => ⟨.int (n / x), e ▸ ov_I ⟨by omega, by omega⟩, n / x, Int.ediv_nonneg hn (by omega), rfl⟩) (fun _ h => h) ?_
    apply ds_ret (d := d)
    · exact dv_var rfl
    · exact hd
  · apply ds_nx
    apply ds_seq
    refine ds_parEE (de_cells rfl) (de_spot rfl) ?_
    rintro d e ⟨cs, rfl⟩ ⟨n, hn, rfl⟩
    apply ds_seq
    refine ds_spot (i := 0) (Pd := fun d => ∃ n, 0 ≤ n ∧ d = .int n) rfl (DV.e (d := .int (n + 1)) (dv_op (dv_var rfl) dv_int ov_I0) ⟨n + 1, by omega, rfl⟩) (fun _ h => h) ?_
    apply ds_seq
    refine ds_setE (Pd := fun d => ∃ v : Int, d = .int v) ?_ ?_
    · by_cases hc : cs = []
      · refine DV.e (d := .int 41221) (dv_if (b := !decide (cs = [])) (dt_test (dv_op (dv_var rfl) (dv_emp D.int) (ov_neLL eqInt (by decide)))) (fun h => ?_) (fun _ => dv_int)) ⟨_, rfl⟩
        rw [hc] at h
        cases h
      · have hl : 0 < cs.length := List.length_pos_iff.mpr hc
        have hm := emod_bd n (m := (cs.length : Int)) (by omega)
        have hk : (n % (cs.length : Int)).toNat < cs.length := by omega
        have ek : n % (((cs.map D.int).length : Nat) : Int) = (((n % (cs.length : Int)).toNat : Nat) : Int) := by rw [List.length_map]; omega
        refine DV.e (d := .int (cs.getD (n % (cs.length : Int)).toNat 0)) (dv_if (b := !decide (cs = [])) (dt_test (dv_op (dv_var rfl) (dv_emp D.int) (ov_neLL eqInt (by decide)))) (fun _ => ?_) (fun h => ?_)) ⟨_, rfl⟩
        · refine dv_op (dv_var (d := .lst (cs.map D.int)) rfl) (dv_op (dv_cb (da_cons (dv_var rfl) da_nil) cv_intK) (dv_cb (da_cons (dv_var (d := .lst (cs.map D.int)) rfl) da_nil) (cv_lenK rfl)) (ov_I ?_)) (ov_ixL ?_)
          · show (0 : Int) < (((cs.map D.int).length : Nat) : Int)
            rw [List.length_map]
            omega
          · show atI _ (n % (((cs.map D.int).length : Nat) : Int)) = _
            rw [ek]
            exact atI_map (getD_at hk)
        · rw [decide_eq_false hc] at h
          cases h
    rintro d ⟨v, rfl⟩
    apply ds_seq
    apply ds_if (b := decide ((10 : Int) ^ (18 : Int).toNat ≤ v) && decide (n < ((cs.map D.int).length : Nat)))
    · apply dt_and
      · apply dt_test
        apply dv_op
        · exact dv_var rfl
        · exact dv_op dv_int dv_int (ov_I ⟨by decide, by decide, by decide⟩)
        · exact ov_B0
      · intro _
        apply dt_test
        apply dv_op
        · exact dv_var rfl
        · exact dv_cb (da_cons (dv_var rfl) da_nil) (cv_lenK rfl)
        · exact ov_B0
    · intro hb
      have hv0 : 0 ≤ v := by
        have h3 : decide ((10 : Int) ^ (18 : Int).toNat ≤ v) = true := (Bool.and_eq_true_iff.mp hb).1
        exact Int.le_trans (by decide) (of_decide_eq_true h3)
      apply ds_seq
      refine ds_rest (i := 0) (Pd := fun d => ∃ n, 0 ≤ n ∧ d = .int n) rfl (DV.e (d := .int (v / x)) (dv_op (dv_var rfl) (dv_var rfl) (ov_I ⟨by omega, by omega⟩)) ⟨v / x, Int.ediv_nonneg hv0 (by omega), rfl⟩) (fun _ h => h) ?_
      apply ds_ret (d := .int (v % x))
      · exact dv_op (dv_cb (da_cons (dv_var rfl) da_nil) cv_intK) (dv_var rfl) (ov_I (show 0 < x by omega))
      · exact ⟨_, emod_bd v h1, rfl⟩
    · intro _
      apply ds_nx
      apply ds_seq
      refine ds_setE (Pd := fun d => ∃ n, (0 ≤ n ∧ n < 2147480797) ∧ d = .int n) (de_op1 (de_cb (Q := fun d => ∃ n, d = .int n) (de_op1 (Q := fun d => ∃ n, d = .int n) (de_op2 (Q := fun d => ∃ n, d = .int n) (dv_op (dv_cb (da_cons (dv_var rfl) da_nil) cv_intK) dv_int (ov_I (by decide))) (de_op2 (Q := fun d => ∃ n, d = .int n) dv_int (de_turn rfl) fun y h => (by obtain ⟨n, rfl⟩ := h; exact ⟨_, ov_I (Or.inl ⟨by decide, by decide⟩), _, rfl⟩)) fun y h => (by obtain ⟨n, rfl⟩ := h; exact ⟨_, ov_I0, _, rfl⟩)) dv_int fun y h => (by obtain ⟨n, rfl⟩ := h; exact ⟨_, ov_I0, _, rfl⟩)) fun y h => (by obtain ⟨n, rfl⟩ := h; exact ⟨_, cv_intK, _, rfl⟩)) dv_int fun y ⟨n, e⟩ => ⟨.int (n % 2147480797), e ▸ ov_I (by decide), _, emod_bd n (by decide), rfl⟩) ?_
      rintro d ⟨m, hm, rfl⟩
      apply ds_seq
      refine ds_setE (Pd := fun d => ∃ n, (0 ≤ n ∧ n < 2147480791) ∧ d = .int n) (de_op1 (de_cb (Q := fun d => ∃ n, d = .int n) (de_op1 (Q := fun d => ∃ n, d = .int n) (de_op2 (Q := fun d => ∃ n, d = .int n) (dv_op (dv_var rfl) (dv_var rfl) (ov_I (.inl ⟨by omega, by omega⟩))) (de_op2 (Q := fun d => ∃ n, d = .int n) dv_int (de_turn rfl) fun y h => (by obtain ⟨n, rfl⟩ := h; exact ⟨_, ov_I (Or.inl ⟨by decide, by decide⟩), _, rfl⟩)) fun y h => (by obtain ⟨n, rfl⟩ := h; exact ⟨_, ov_I0, _, rfl⟩)) dv_int fun y h => (by obtain ⟨n, rfl⟩ := h; exact ⟨_, ov_I0, _, rfl⟩)) fun y h => (by obtain ⟨n, rfl⟩ := h; exact ⟨_, cv_intK, _, rfl⟩)) dv_int fun y ⟨n, e⟩ => ⟨.int (n % 2147480791), e ▸ ov_I (by decide), _, emod_bd n (by decide), rfl⟩) ?_
      rintro d ⟨m2, hm2, rfl⟩
      apply ds_ret
      · apply dv_op
        · apply dv_cb
          · apply da_cons
            · apply dv_op
              · apply dv_op
                · apply dv_cb
                  · apply da_cons
                    · apply dv_op
                      · exact dv_op (dv_var rfl) (dv_var rfl) (ov_I (.inl ⟨by omega, by omega⟩))
                      · exact dv_op dv_int (dv_var rfl) (ov_I (.inl ⟨by decide, by decide⟩))
                      · exact ov_I0
                    · exact da_nil
                  · exact cv_intK
                · exact dv_int
                · exact ov_I (by decide)
              · exact dv_int
              · exact ov_I ⟨by decide, by decide⟩
            · exact da_nil
          · exact cv_intK
        · exact dv_var rfl
        · exact ov_I (show 0 < x by omega)
      · exact ⟨_, emod_bd _ h1, rfl⟩
theorem de__law_draw {i : Nat} {m : Int} (hi : sl[i]? = some .src) (h : DA tr sl [.int m]) (hm : 1 ≤ m ∧ m < 10000) : DE (tCall sp__law_draw [] E (tCons (tVar i) tr)) sl (resDraw m) := de_call (enc := fun x : Int => [.int x]) m hi h hm

abbrev s__law_any : Stmt := topS 70
abbrev N__law_any : List Str := ["_law_src", "_law_some"]
theorem sc__law_any : FnScope N__law_any ["_law_src", "_law_some"] (defScope s__law_any) := ⟨rfl, rfl, rfl, by decide +kernel, rfl, by decide +kernel, by decide +kernel⟩
def sp__law_any : Sp := spS (fun x : List D => [.lst x]) (fun x => x ≠ [] ∧ x.length < 10000) (fun x d => d ∈ x)
theorem ok__law_any (D__law_draw : Def P w K mg base "_law_draw" ["_law_src", "_law_much"] [] 1 sp__law_draw) (B : Blt mg tv) (F : Fun K "_law_any" "_law_any" s__law_any f fd) : FnOk P w K mg base CX0 2 f fd ["_law_src", "_law_some"] sp__law_any := by
  have nd := sc__law_any.nd
  refine F.ok (k := 1) sc__law_any (fun vs H Q E h => spS_len (n:=1) (fun _ => rfl) h) (fun cdv A outer s H vs Q E hr h => ?_)
  refine ⟨_, (pss_one (ps_ret (pe_ix (ix_listK K) (pv 1) (pe_def D__law_draw (hr.mono (by decide)) (by rfl) (pa_cons (pv 0) (pa_cons (pe_callB (call_lenK K) (by rfl) B.len_ (by decide +kernel) (pa_cons (pv 1) pa_nil)) pa_nil))) (fun _ _ => rfl)))), body_okS (N := N__law_any) h fun x hp => ?_⟩
  obtain ⟨h1, h2⟩ := hp
  have hl : 0 < x.length := List.length_pos_iff.mpr h1
  show DS _ [.src, .d (.lst x)] _
  apply ds_retE
  refine de_op2 (dv_var rfl) (de__law_draw (m := (x.length : Nat)) rfl (da_cons (dv_cb (da_cons (dv_var rfl) da_nil) (cv_lenK rfl)) da_nil) ⟨by omega, by omega⟩) ?_
  rintro y ⟨n, hn, rfl⟩
  have hk : n.toNat < x.length := by omega
  refine ⟨x[n.toNat], ov_ixL ?_, List.getElem_mem hk⟩
  have e : n = ((n.toNat : Nat) : Int) := by omega
  have q := atI_nat (List.getElem?_eq_getElem hk)
  rw [← e] at q
  exact q
theorem de__law_any {i : Nat} {x : List D} (hi : sl[i]? = some .src) (h : DA tr sl [.lst x]) (hm : x ≠ [] ∧ x.length < 10000) : DE (tCall sp__law_any [] E (tCons (tVar i) tr)) sl (fun d => d ∈ x) := de_call (enc := fun x : List D => [.lst x]) x hi h hm
end
end Wa
set_option maxHeartbeats 4000000
namespace Wa
open PySem PySem.Spec PyProof.Rows L2
local macro_rules | `(tactic| walk_at "s") => `(tactic| first
  | with_reducible exact dv_int | with_reducible exact dv_bl | with_reducible exact dv_str | with_reducible exact dv_non
  | ((with_reducible apply dv_var); first | rfl | (show _ = _; assumption))
  | with_reducible apply dv_op
  | with_reducible apply da_cons | with_reducible exact da_nil
  | with_reducible apply dv_tup2 | with_reducible apply dv_tup1 | with_reducible apply dv_tup3 | with_reducible exact dv_tup0
  | with_reducible apply dv_isN | with_reducible apply dv_notN
  | with_reducible apply dt_test | with_reducible apply dt_B | with_reducible exact dt_yes
  | with_reducible apply (dt_and ?_ fun _ => ?_) | with_reducible apply (dt_or ?_ fun _ => ?_) | with_reducible apply dt_not
  | with_reducible apply (dv_and ?_ fun _ => ?_) | with_reducible apply dv_not
  | with_reducible apply (dv_chain (g := D.non) ?_ ?_ ?_ (fun _ => ?_) (fun _ => ?_))
  | with_reducible exact ov_I0 | with_reducible exact ov_B0 | ((with_reducible apply ov_I); first | (show 0 < _; omega) | (unfold CDiv; omega) | (unfold CMul; omega) | (unfold CDivN; omega) | skip)
  | with_reducible exact ov_eqI | with_reducible exact ov_neI | with_reducible exact ov_eqB | with_reducible exact ov_eqS | with_reducible exact ov_notB
  | with_reducible exact ov_isN | with_reducible exact ov_notN
  | with_reducible apply dv_neg
  | with_reducible apply dv_isInt | with_reducible apply dv_isBool
  | with_reducible apply dv_cb
  | (with_reducible exact cv_tupleK) | (with_reducible exact cv_tupF) | (with_reducible exact cv_intK) | (with_reducible exact cv_sum) | (with_reducible exact cv_all) | (with_reducible exact cv_any) | ((with_reducible apply cv_lenK); rfl)
  | (exact ov_ixT rfl rfl) | (exact ov_ixL rfl)
  | with_reducible apply dv_din | with_reducible apply dv_dnotin
  | (show D.items _ = some _; rfl) | (show D.seq _ = some _; rfl) | ((show WF _); assumption))
local macro_rules | `(tactic| walk_at "s") => `(tactic| first | with_reducible apply cl_power_in | with_reducible apply cl_size_in | with_reducible apply cl_weight_of | with_reducible apply cl_rows_in | with_reducible apply cl_web_in | with_reducible apply cl_movers_in | with_reducible apply cl_moved_in | with_reducible apply cl_still_in | with_reducible apply cl_moved_by | with_reducible apply cl_movers_on | with_reducible apply cl_struck_by | with_reducible apply cl_subsets_of | with_reducible apply cl_cut_in | with_reducible apply cl_log_in | with_reducible apply cl_row_power | with_reducible apply cl_power_in_rows | with_reducible apply cl_alike_in | with_reducible apply cl_is_undivided | with_reducible apply cl_is_whole_number | with_reducible apply cl_is_count | with_reducible apply cl_is_small_prime | with_reducible apply cl_is_pair | with_reducible apply cl_are_rising | with_reducible apply cl_are_primes_among | with_reducible apply cl_prime_fault | with_reducible apply cl_move_fault | with_reducible apply cl_row_fault | with_reducible apply cl_table_fault | with_reducible apply cl_want2 | with_reducible apply cl_want_table1 | with_reducible apply cl_want_table2 | with_reducible apply cl_want_primes2 | with_reducible apply cl_want_both | with_reducible apply cl_are_alike | with_reducible apply cl_moved_out | with_reducible apply cl_parts_in | with_reducible apply cl_part_count | with_reducible apply cl_is_like_part | with_reducible apply cl_alike_parts_in | with_reducible apply cl_parts_alike | with_reducible apply cl_cut_to | with_reducible apply cl_other_moved | with_reducible apply cl_twisted_in | with_reducible apply cl_twisted_count | with_reducible apply cl__law_up | with_reducible apply cl__law_roots | with_reducible apply cl__law_movers | with_reducible apply cl__law_row | with_reducible apply cl__law_web | with_reducible apply cl__law_power_between | with_reducible apply cl__law_are_alike | with_reducible apply cl__law_cut | with_reducible apply cl__law_threes | with_reducible apply cl__law_many | with_reducible apply cl__law_factors | with_reducible apply cl__law_twist )
/-! worlds, charts, rivals -/
abbrev dWorld (W : List Int × List Pr) : D := .tup [dFI W.1, dWeb W.2]
structure WW (W : List Int × List Pr) : Prop where
  ps : W.1.Pairwise (· < ·)
  pin : ∀ p ∈ W.1, p ∈ PS
  pl : W.1.length ≤ 5
  ed : ∀ e ∈ W.2, e.1 ∈ W.1 ∧ e.2 ∈ W.1 ∧ e ∈ ES
  so : ∀ p ∈ W.1, ((W.2.filter fun e => decide (e.1 = p)).map (·.2)).Pairwise (· < ·)
  nc : ∀ e ∈ W.2, ∀ e' ∈ W.2, e.1 ≠ e'.2
  ln : W.2.length ≤ 5
  l2 : 2 ≤ W.1.length
  pm : prodI (W.1.filter fun p => W.2.any fun e => decide (e.1 = p)) ≤ 1000
structure CH (T : Tab) : Prop where
  w : WF T
  l2 : 2 ≤ T.1.length
  pm : prodI (movers T) ≤ 1000
theorem rootsM_mem {p q g : Int} (h : g ∈ rootsM p q) : 1 < g ∧ g < q ∧ upM g p.toNat q = 1 := by
  obtain ⟨i, hi, rfl⟩ := List.mem_map.mp h
  obtain ⟨h1, h2⟩ := List.mem_filter.mp hi
  have := List.mem_range.mp h1
  exact ⟨by omega, by omega, of_decide_eq_true h2⟩
theorem mem_rootsM {p q g : Int} (h1 : 1 < g) (h2 : g < q) (h3 : upM g p.toNat q = 1) : g ∈ rootsM p q := by
  refine List.mem_map.mpr ⟨(g - 2).toNat, List.mem_filter.mpr ⟨List.mem_range.mpr (by omega), ?_⟩, by omega⟩
  rw [show (2 : Int) + (((g - 2).toNat : Nat) : Int) = g by omega]
  exact decide_eq_true h3
def esRoots : Bool := ES.all fun e => !(rootsM e.1 e.2).isEmpty && decide ((rootsM e.1 e.2).length < 100) && (rootsM e.1 e.2).all fun g => (List.range (e.1 - 1).toNat).all fun k => decide (1 < upM g (k + 1) e.2) && decide (upM (upM g (k + 1) e.2) e.1.toNat e.2 = 1)
theorem esRoots_ok : esRoots = true := by decide +kernel
theorem es_roots {e : Int × Int} (h : e ∈ ES) : rootsM e.1 e.2 ≠ [] ∧ (rootsM e.1 e.2).length < 100 ∧ ∀ g ∈ rootsM e.1 e.2, ∀ k : Nat, 1 ≤ k → (k : Int) < e.1 → 1 < upM g k e.2 ∧ upM (upM g k e.2) e.1.toNat e.2 = 1 := by
  have h1 := List.all_eq_true.mp esRoots_ok e h
  rw [Bool.and_eq_true, Bool.and_eq_true] at h1
  obtain ⟨⟨a, b⟩, c⟩ := h1
  refine ⟨fun hn => ?_, of_decide_eq_true b, fun g hg k hk hk2 => ?_⟩
  · rw [hn] at a
    cases a
  · have d := List.all_eq_true.mp (List.all_eq_true.mp c g hg) (k - 1) (List.mem_range.mpr (by omega))
    rw [show k - 1 + 1 = k by omega, Bool.and_eq_true] at d
    exact ⟨of_decide_eq_true d.1, of_decide_eq_true d.2⟩
/-- a row that may be empty -/
structure WR (ps : List Int) (p : Int) (r : Row) : Prop where
  so : (r.map (·.1)).Pairwise (· < ·)
  ln : r.length ≤ 5
  ed : ∀ e ∈ r, e.1 ∈ ps ∧ (p, e.1) ∈ ES ∧ 1 < e.2 ∧ e.2 < e.1 ∧ upM e.2 p.toNat e.1 = 1
theorem WR.m {ps : List Int} {p : Int} {r : Row} (h : WR ps p r) (hp : p ∈ ps) (hn : r ≠ []) : WFm ps (p, r) := ⟨hp, hn, h.so, h.ln, h.ed⟩
theorem prodI_sub : ∀ {xs ys : List Int}, xs.Sublist ys → (∀ y ∈ ys, 1 ≤ y) → prodI xs ≤ prodI ys ∧ 1 ≤ prodI xs := fun {xs ys} h => by
  have mulgo : ∀ (ns : List Int) (a : Int), ns.foldl (· * ·) a = a * prodI ns := fun ns => by
    induction ns with
    | nil => exact fun a => (Int.mul_one a).symm
    | cons n ns ih =>
      intro a
      unfold prodI
      rw [List.foldl_cons, List.foldl_cons, ih, ih, Int.one_mul, Int.mul_assoc]
  have cons : ∀ (n : Int) (ns : List Int), prodI (n :: ns) = n * prodI ns := fun n ns => by
    rw [← mulgo]
    unfold prodI
    rw [List.foldl_cons, Int.one_mul]
  induction h with
  | slnil => exact fun _ => ⟨Int.le_refl _, by decide⟩
  | cons a h ih =>
    intro hy
    obtain ⟨i1, i2⟩ := ih fun y hy2 => hy y (List.mem_cons_of_mem _ hy2)
    have ha := hy a List.mem_cons_self
    rw [cons]
    refine ⟨Int.le_trans i1 ?_, i2⟩
    have := Int.mul_le_mul_of_nonneg_right ha (show 0 ≤ prodI _ from Int.le_trans (by decide) (Int.le_trans i2 i1))
    rw [Int.one_mul] at this
    exact this
  | cons_cons a h ih =>
    intro hy
    obtain ⟨i1, i2⟩ := ih fun y hy2 => hy y (List.mem_cons_of_mem _ hy2)
    have ha := hy a List.mem_cons_self
    rw [cons, cons]
    refine ⟨Int.mul_le_mul_of_nonneg_left i1 (by omega), ?_⟩
    have := Int.mul_le_mul ha i2 (by decide) (by omega)
    omega
section
variable {P : Program} {w : World} {K : PySem.W.Frag} {mg : Str → Option Value} {base : Heap} {f : Addr} {fd : FuncData} {tv : Value} {sl : List Sl} {tr : TA} {E : XK}

abbrev s__law_chart : Stmt := topS 75
abbrev N__law_chart : List Str := ["_law_src", "_law_world", "_law_rows", "_law_p", "_law_own", "_law_first", "_law_q"]
theorem sc__law_chart : FnScope N__law_chart ["_law_src", "_law_world"] (defScope s__law_chart) := ⟨rfl, rfl, rfl, by decide +kernel, rfl, by decide +kernel, by decide +kernel⟩
def resChart (W : List Int × List Pr) (d : D) : Prop := ∃ T, CH T ∧ T.1 = W.1 ∧ d = dTab T
def sp__law_chart : Sp := spS (fun x : List Int × List Pr => [dWorld x]) WW resChart
structure CR (W : List Int × List Pr) (ps : List Int) (rows : List (Int × Row)) : Prop where
  mv : rows.map (·.1) = ps.filter fun p => W.2.any fun e => decide (e.1 = p)
  rw : ∀ m ∈ rows, WFm W.1 m ∧ ∀ e ∈ m.2, (m.1, e.1) ∈ W.2
theorem ok__law_chart (D__law_any : Def P w K mg base "_law_any" ["_law_src", "_law_some"] [] 2 sp__law_any) (D__law_roots : Def P w K mg base "_law_roots" ["_law_p", "_law_q"] [] 2 sp__law_roots) (B : Blt mg tv) (F : Fun K "_law_chart" "_law_chart" s__law_chart f fd) : FnOk P w K mg base CX0 3 f fd ["_law_src", "_law_world"] sp__law_chart := by
  have nd := sc__law_chart.nd
  refine F.ok (k := 2) sc__law_chart (fun vs H Q E h => spS_len (n:=1) (fun _ => rfl) h) (fun cdv A outer s H vs Q E hr h => ?_)
  refine ⟨_, (pss_cons (ps_set (i := 2) nd rfl (Or.inl rfl) (pe_lst pa_nil))
      (pss_cons (ps_for PassesOwn.never rfl (pi_tupK K (pe_ix (ix_tupK K) (pv 1) pe_int (fun _ _ => rfl))) (pg_name (i := 3) nd rfl (Or.inr rfl)) (pss_cons (ps_setLc (i := 4) (own := [("_law_first", 5), ("_law_q", 6)]) rfl nd rfl rfl (sw_true rfl rfl rfl (by decide +kernel)) (pi_tupK K (pe_ix (ix_tupK K) (pv 1) pe_int (fun _ _ => rfl))) (blkOk_by (N := N__law_chart) (sc := (defScope s__law_chart)) (by decide +kernel)) (fun _ _ _ _ _ => (pg_tupK (n := 2) K rfl (pgs_cons (pg_name (i := 5) nd rfl (Or.inl rfl)) (pgs_cons (pg_name (i := 6) nd rfl (Or.inl rfl)) pgs_nil)))) (fun _ _ _ _ _ => pts_one (pt_cmpR op_eq (pv 5) (pv 3) (nomark _))) (fun _ _ _ _ _ => (pe_tup (pa_cons (pv 6) (pa_cons (pe_def D__law_any (hr.mono (by decide)) (by rfl) (pa_cons (pv 0) (pa_cons (pe_def D__law_roots (hr.mono (by decide)) (by rfl) (pa_cons (pv 3) (pa_cons (pv 6) pa_nil))) pa_nil))) pa_nil)))))
      (pss_one (ps_if (pt_cmpR (op_neDK K hr.units) (pv 4) (pe_lst pa_nil) (nomark _)) (pss_one (ps_expr (pe_bm PySem.F.plainAttrs_list PySem.F.slot_list_append PySem.F.type_list_append mt_append (pv 2) (pa_cons (pe_tup (pa_cons (pv 3) (pa_cons (pe_callTy (call_tupFK K) (by rfl) B.tuple_ (by decide +kernel) (pa_cons (pv 4) pa_nil)) pa_nil))) pa_nil)))) pss_nil))))
      (pss_one (ps_ret (pe_tup (pa_cons (pe_ix (ix_tupK K) (pv 1) pe_int (fun _ _ => rfl)) (pa_cons (pe_callTy (call_tupFK K) (by rfl) B.tuple_ (by decide +kernel) (pa_cons (pv 2) pa_nil)) pa_nil))))))), body_okS (N := N__law_chart) h fun x hp => ?_⟩
  obtain ⟨W, hWx⟩ : ∃ W, W = x := ⟨x, rfl⟩
  subst hWx
  have hw : WW W := hp
  have pl := hw.pl
  have wl := hw.ln
  show DS _ [.src, .d (dWorld W), .un, .un, .un, .un, .un] _
  apply ds_seq
  apply ds_asgL (xs := [])
  · exact dl_lst da_nil
  apply ds_seq
  refine ds_for W.1 D.int (fun p => [(3, .int p)]) (fun i s => ∃ a b rows, s = [.src, .d (dWorld W), .ml (rows.map dMv), a, b, .un, .un] ∧ CR W (W.1.take i) rows) (di_tup (d := dFI W.1) ?_ rfl) (fun _ _ => dg_name) ⟨_, _, [], rfl, rfl, fun _ h => by cases h⟩ ?_ ?_
  · repeat' walk_at "s"
  · rintro i p s hi ⟨a, b, rows, rfl, cr⟩
    have hpW := mem_at hi
    have p2 := ps_lo (hw.pin p hpW)
    apply ds_seq
    refine ds_setE (Pd := fun d => ∃ acc, d = .lst acc ∧ ∃ r : Row, acc = r.map dPr ∧ r.map (·.1) = (W.2.filter fun e => decide (e.1 = p)).map (·.2) ∧ ∀ e ∈ r, 1 < e.2 ∧ e.2 < e.1 ∧ upM e.2 p.toNat e.1 = 1) ?_ ?_
    · refine de_lc W.2 dPr (fun e => [(5, .int e.1), (6, .int e.2)]) (fun i acc => ∃ r : Row, acc = r.map dPr ∧ r.map (·.1) = ((W.2.take i).filter fun e => decide (e.1 = p)).map (·.2) ∧ ∀ e ∈ r, 1 < e.2 ∧ e.2 < e.1 ∧ upM e.2 p.toNat e.1 = 1) (fun i acc b => ∀ x, W.2[i]? = some x → b = decide (x.1 = p)) (di_tup (d := dWeb W.2) ?_ rfl) (fun _ _ => dg_tup rfl (dgs_cons (dgs_cons dgs_nil))) (fun _ _ => rfl) ⟨[], rfl, rfl, fun _ h => by cases h⟩ ?_ ?_ ?_ (by omega) ?_
      · repeat' walk_at "s"
      · rintro j x acc hj hR
        refine DT.e (b := decide (x.1 = p)) ?_ fun y hy => ?_
        · repeat' walk_at "s"
        · rw [hj] at hy
          cases hy
          rfl
      · rintro j acc hb ⟨r, e1, e2, e3⟩
        refine ⟨r, e1, ?_, e3⟩
        cases hj : W.2[j]? with
        | none =>
          rw [List.take_of_length_le (by rw [List.getElem?_eq_none_iff] at hj; omega)]
          rw [List.take_of_length_le (by rw [List.getElem?_eq_none_iff] at hj; omega)] at e2
          exact e2
        | some x =>
          have := hb x hj
          rw [take_snoc hj, List.filter_append, List.filter_cons, ← this, if_neg Bool.false_ne_true, List.filter_nil, List.append_nil, e2]
      · rintro j x acc hj ⟨r, e1, e2, e3⟩ hb
        have hx : x.1 = p := of_decide_eq_true (hb x hj).symm
        have hxW := hw.ed x (mem_at hj)
        have er := es_roots hxW.2.2
        have q2 := ps_lo (hw.pin _ hxW.2.1)
        refine de_pair (dv_var rfl) (de__law_any (x := (rootsM p x.2).map D.int) rfl (da_cons ?_ da_nil) ?_) ?_
        · exact cl__law_roots (da_cons (dv_var rfl) (da_cons (dv_var rfl) da_nil)) ⟨by omega, by omega, by omega, by omega⟩
        · rw [← hx]
          refine ⟨fun h => er.1 (List.map_eq_nil_iff.mp h), ?_⟩
          rw [List.length_map]
          omega
        · intro y hy
          obtain ⟨g, hg, rfl⟩ := List.mem_map.mp hy
          refine ⟨r ++ [(x.2, g)], ?_, ?_, ?_⟩
          · rw [e1, List.map_append] <;> rfl
          · rw [take_snoc hj, List.filter_append, List.map_append, List.map_append, e2, List.filter_cons, if_pos (decide_eq_true hx)] <;> rfl
          · intro e he
            rcases List.mem_append.mp he with h | h
            · exact e3 e h
            · rw [List.mem_singleton.mp h]
              exact rootsM_mem hg
      · rintro acc ⟨r, e1, e2, e3⟩
        rw [List.take_length] at e2
        exact ⟨r, e1, e2, e3⟩
    · rintro d ⟨acc, rfl, r, rfl, e2, e3⟩
      have inW : ∀ e ∈ r, (p, e.1) ∈ W.2 := fun e he => by
        have : e.1 ∈ (W.2.filter fun e => decide (e.1 = p)).map (·.2) := by
          rw [← e2]
          exact List.mem_map.mpr ⟨e, he, rfl⟩
        obtain ⟨x, hx, h3⟩ := List.mem_map.mp this
        obtain ⟨h4, h5⟩ := List.mem_filter.mp hx
        have h5 : x.1 = p := of_decide_eq_true h5
        rw [← h3, ← h5]
        exact h4
      have rln : r.length ≤ 5 := by
        have h3 : (r.map (·.1)).length = r.length := List.length_map ..
        rw [e2, List.length_map] at h3
        have := List.length_filter_le (fun e : Pr => decide (e.1 = p)) W.2
        omega
      have wr : WR W.1 p r := ⟨by rw [e2]; exact hw.so p hpW, rln, fun e he => ⟨(hw.ed _ (inW e he)).2.1, (hw.ed _ (inW e he)).2.2, e3 e he⟩⟩
      have any_iff : (W.2.any fun e => decide (e.1 = p)) = true ↔ r ≠ [] := by
        constructor
        · intro h hn
          obtain ⟨x, hx, h2⟩ := List.any_eq_true.mp h
          rw [hn, List.map_nil] at e2
          have := List.map_eq_nil_iff.mp e2.symm
          exact absurd (List.mem_filter.mpr ⟨hx, h2⟩) (by rw [this]; exact List.not_mem_nil)
        · intro h
          obtain ⟨e, es, rfl⟩ := List.exists_cons_of_ne_nil h
          exact List.any_eq_true.mpr ⟨_, inW e List.mem_cons_self, decide_eq_true rfl⟩
      have rowsl : rows.length ≤ 5 := by
        have h3 : (rows.map (·.1)).length = rows.length := List.length_map ..
        rw [cr.mv] at h3
        have := List.length_filter_le (fun p => W.2.any fun e => decide (e.1 = p)) (W.1.take i)
        rw [List.length_take] at this
        omega
      apply ds_if (b := !decide (r = []))
      · apply dt_test
        exact dv_op (dv_var rfl) (dv_emp dPr) (ov_neLL eqPr (by decide))
      · intro hb
        have hr : r ≠ [] := by simpa using hb
        apply ds_app (xs := rows.map dMv) rfl
        · exact dv_tup2 (dv_var rfl) (dv_cb (da_cons (dv_var rfl) da_nil) cv_tupF)
        · rw [List.length_map]
          omega
        · refine ⟨_, _, rows ++ [(p, r)], by rw [List.map_append] <;> rfl, ?_, fun m hm => ?_⟩
          · rw [take_snoc hi, List.filter_append, List.map_append, cr.mv, List.filter_cons, if_pos (any_iff.mpr hr)] <;> rfl
          · rcases List.mem_append.mp hm with h | h
            · exact cr.rw m h
            · rw [List.mem_singleton.mp h]
              exact ⟨wr.m hpW hr, inW⟩
      · intro hb
        have hr : r = [] := by simpa using hb
        apply ds_nx
        refine ⟨_, _, rows, rfl, ?_, cr.rw⟩
        rw [take_snoc hi, List.filter_append, cr.mv, List.filter_cons, if_neg (fun h => any_iff.mp h hr), List.filter_nil, List.append_nil]
  · rintro s ⟨a, b, rows, rfl, cr⟩
    rw [List.take_length] at cr
    refine ds_frz 2 rfl ?_
    apply ds_ret (d := dTab (W.1, rows))
    · exact dv_tup2 (dv_op (dv_var rfl) dv_int (ov_ixT (f := dFI W.1) rfl rfl)) (dv_cb (da_cons (dv_var rfl) da_nil) cv_tupF)
    · have mvs : ((W.1.filter fun p => W.2.any fun e => decide (e.1 = p))).Sublist W.1 := List.filter_sublist
      refine ⟨(W.1, rows), ⟨⟨hw.ps, hw.pin, hw.pl, ?_, ?_, fun m hm => (cr.rw m hm).1, fun m hm m' hm' e he => ?_⟩, hw.l2, ?_⟩, rfl, rfl⟩
      · show (rows.map (·.1)).Pairwise (· < ·)
        rw [cr.mv]
        exact hw.ps.sublist mvs
      · have h3 : (rows.map (·.1)).length = rows.length := List.length_map ..
        rw [cr.mv] at h3
        have := mvs.length_le
        show rows.length ≤ 5
        omega
      · obtain ⟨x, hx⟩ := List.exists_mem_of_ne_nil _ (cr.rw m hm).1.ne
        exact hw.nc _ ((cr.rw m hm).2 x hx) _ ((cr.rw m' hm').2 e he)
      · show prodI (rows.map (·.1)) ≤ 1000
        rw [cr.mv]
        exact hw.pm
theorem de__law_chart {i : Nat} {W : List Int × List Pr} (hi : sl[i]? = some .src) (h : DA tr sl [dWorld W]) (hw : WW W) : DE (tCall sp__law_chart [] E (tCons (tVar i) tr)) sl (resChart W) := de_call (enc := fun x : List Int × List Pr => [dWorld x]) W hi h hw
end
end Wa
set_option maxHeartbeats 4000000
namespace Wa
open PySem PySem.Spec PyProof.Rows L2
local macro_rules | `(tactic| walk_at "s") => `(tactic| first
  | with_reducible exact dv_int | with_reducible exact dv_bl | with_reducible exact dv_str | with_reducible exact dv_non
  | ((with_reducible apply dv_var); first | rfl | (show _ = _; assumption))
  | with_reducible apply dv_op
  | with_reducible apply da_cons | with_reducible exact da_nil
  | with_reducible apply dv_tup2 | with_reducible apply dv_tup1 | with_reducible apply dv_tup3 | with_reducible exact dv_tup0
  | with_reducible apply dv_isN | with_reducible apply dv_notN
  | with_reducible apply dt_test | with_reducible apply dt_B | with_reducible exact dt_yes
  | with_reducible apply (dt_and ?_ fun _ => ?_) | with_reducible apply (dt_or ?_ fun _ => ?_) | with_reducible apply dt_not
  | with_reducible apply (dv_and ?_ fun _ => ?_) | with_reducible apply dv_not
  | with_reducible apply (dv_chain (g := D.non) ?_ ?_ ?_ (fun _ => ?_) (fun _ => ?_))
  | with_reducible exact ov_I0 | with_reducible exact ov_B0 | ((with_reducible apply ov_I); first | (show 0 < _; omega) | (unfold CDiv; omega) | (unfold CMul; omega) | (unfold CDivN; omega) | skip)
  | with_reducible exact ov_eqI | with_reducible exact ov_neI | with_reducible exact ov_eqB | with_reducible exact ov_eqS | with_reducible exact ov_notB
  | with_reducible exact ov_isN | with_reducible exact ov_notN
  | with_reducible apply dv_neg
  | with_reducible apply dv_isInt | with_reducible apply dv_isBool
  | with_reducible apply dv_cb
  | (with_reducible exact cv_tupleK) | (with_reducible exact cv_tupF) | (with_reducible exact cv_intK) | (with_reducible exact cv_sum) | (with_reducible exact cv_all) | (with_reducible exact cv_any) | ((with_reducible apply cv_lenK); rfl)
  | (exact ov_ixT rfl rfl) | (exact ov_ixL rfl)
  | with_reducible apply dv_din | with_reducible apply dv_dnotin
  | (show D.items _ = some _; rfl) | (show D.seq _ = some _; rfl) | ((show WF _); assumption))
local macro_rules | `(tactic| walk_at "s") => `(tactic| first | with_reducible apply cl_power_in | with_reducible apply cl_size_in | with_reducible apply cl_weight_of | with_reducible apply cl_rows_in | with_reducible apply cl_web_in | with_reducible apply cl_movers_in | with_reducible apply cl_moved_in | with_reducible apply cl_still_in | with_reducible apply cl_moved_by | with_reducible apply cl_movers_on | with_reducible apply cl_struck_by | with_reducible apply cl_subsets_of | with_reducible apply cl_cut_in | with_reducible apply cl_log_in | with_reducible apply cl_row_power | with_reducible apply cl_power_in_rows | with_reducible apply cl_alike_in | with_reducible apply cl_is_undivided | with_reducible apply cl_is_whole_number | with_reducible apply cl_is_count | with_reducible apply cl_is_small_prime | with_reducible apply cl_is_pair | with_reducible apply cl_are_rising | with_reducible apply cl_are_primes_among | with_reducible apply cl_prime_fault | with_reducible apply cl_move_fault | with_reducible apply cl_row_fault | with_reducible apply cl_table_fault | with_reducible apply cl_want2 | with_reducible apply cl_want_table1 | with_reducible apply cl_want_table2 | with_reducible apply cl_want_primes2 | with_reducible apply cl_want_both | with_reducible apply cl_are_alike | with_reducible apply cl_moved_out | with_reducible apply cl_parts_in | with_reducible apply cl_part_count | with_reducible apply cl_is_like_part | with_reducible apply cl_alike_parts_in | with_reducible apply cl_parts_alike | with_reducible apply cl_cut_to | with_reducible apply cl_other_moved | with_reducible apply cl_twisted_in | with_reducible apply cl_twisted_count | with_reducible apply cl__law_up | with_reducible apply cl__law_roots | with_reducible apply cl__law_movers | with_reducible apply cl__law_row | with_reducible apply cl__law_web | with_reducible apply cl__law_power_between | with_reducible apply cl__law_are_alike | with_reducible apply cl__law_cut | with_reducible apply cl__law_threes | with_reducible apply cl__law_many | with_reducible apply cl__law_factors | with_reducible apply cl__law_twist )
theorem ex_slot {xs : List Sl} {i : Nat} {x y : Sl} (h : xs[i]? = some x) (e : x = y) : xs[i]? = some y := e ▸ h
theorem wr_pow {ps : List Int} {p : Int} {r : Row} (h : WR ps p r) {k : Nat} (h1 : 1 ≤ k) (h2 : (k : Int) < p) : WR ps p (r.map fun e => (e.1, upM e.2 k e.1)) := by
  refine ⟨by rw [List.map_map]; exact h.so, by rw [List.length_map]; exact h.ln, fun e he => ?_⟩
  obtain ⟨x, hx, rfl⟩ := List.mem_map.mp he
  obtain ⟨a, b, c, d, e2⟩ := h.ed x hx
  have er := (es_roots b).2.2 x.2 (mem_rootsM c d e2) k h1 h2
  exact ⟨a, b, er.1, (upM_lo (by omega)).2, er.2⟩
theorem wr_set {ps : List Int} {p : Int} {r : Row} (h : WR ps p r) {j : Nat} {e : Pr} (hj : r[j]? = some e) {g : Int} (hg : g ∈ rootsM p e.1) : WR ps p (r.set j (e.1, g)) := by
  obtain ⟨hl, hv⟩ := List.getElem?_eq_some_iff.mp hj
  have hm : (r.set j (e.1, g)).map (·.1) = r.map (·.1) := by
    rw [List.map_set]
    refine List.ext_getElem? fun i => ?_
    by_cases h : j = i
    · subst h
      rw [List.getElem?_set_self (by rw [List.length_map]; exact hl), List.getElem?_map, hj] <;> rfl
    · rw [List.getElem?_set_ne h]
  refine ⟨by rw [hm]; exact h.so, by rw [List.length_set]; exact h.ln, fun x hx => ?_⟩
  rcases List.mem_or_eq_of_mem_set hx with q | q
  · exact h.ed x q
  · obtain ⟨a, b, _⟩ := h.ed e (mem_at hj)
    rw [q]
    exact ⟨a, b, rootsM_mem hg⟩
theorem wr_drop {ps : List Int} {p : Int} {r : Row} (h : WR ps p r) (n : Nat) : WR ps p (r.drop n) := by
  refine ⟨h.so.sublist ((List.drop_sublist n r).map _), Nat.le_trans (List.drop_sublist n r).length_le h.ln, fun e he => h.ed e (List.mem_of_mem_drop he)⟩
section
variable {P : Program} {w : World} {K : PySem.W.Frag} {mg : Str → Option Value} {base : Heap} {f : Addr} {fd : FuncData} {tv : Value} {sl : List Sl} {tr : TA} {E : XK}
abbrev s__law_near : Stmt := topS 83
abbrev N__law_near : List Str := ["_law_src", "_law_chart_here", "_law_way", "_law_rows", "_law_p", "_law_row_here", "_law_k", "_law_late", "_law_q", "_law_root", "_law_spot"]
theorem sc__law_near : FnScope N__law_near ["_law_src", "_law_chart_here"] (defScope s__law_near) := ⟨rfl, rfl, rfl, by decide +kernel, rfl, by decide +kernel, by decide +kernel⟩
def resNear (T : Tab) (d : D) : Prop := ∃ R, CH R ∧ R.1 = T.1 ∧ d = dTab R
def sp__law_near : Sp := spS (fun x : Tab => [dTab x]) CH resNear
structure NR (T : Tab) (i : Nat) (rows : List (Int × Row)) : Prop where
  mv : (rows.map (·.1)).Sublist ((T.2.take i).map (·.1))
  rw : ∀ m' ∈ rows, ∃ m ∈ T.2, m'.1 = m.1 ∧ m'.2 ≠ [] ∧ WR (m.2.map (·.1)) m.1 m'.2
theorem ok__law_near (D__law_draw : Def P w K mg base "_law_draw" ["_law_src", "_law_much"] [] 1 sp__law_draw) (D__law_up : Def P w K mg base "_law_up" ["_law_root", "_law_many_here", "_law_prime"] [] 1 sp__law_up) (D__law_any : Def P w K mg base "_law_any" ["_law_src", "_law_some"] [] 2 sp__law_any) (D__law_roots : Def P w K mg base "_law_roots" ["_law_p", "_law_q"] [] 2 sp__law_roots) (B : Blt mg tv) (F : Fun K "_law_near" "_law_near" s__law_near f fd) : FnOk P w K mg base CX0 3 f fd ["_law_src", "_law_chart_here"] sp__law_near := by
  have nd := sc__law_near.nd
  refine F.ok (k := 2) sc__law_near (fun vs H Q E h => spS_len (n:=1) (fun _ => rfl) h) (fun cdv A outer s H vs Q E hr h => ?_)
  refine ⟨_, (pss_cons (ps_par (i := 2) (j := 3) rfl nd rfl rfl (by decide) rfl rfl (pa_cons (pe_def D__law_draw (hr.mono (by decide)) (by rfl) (pa_cons (pv 0) (pa_cons pe_int pa_nil))) (pa_cons (pe_lst pa_nil) pa_nil)) (by rfl))
      (pss_cons (ps_for PassesOwn.never rfl (pi_tupK K (pe_ix (ix_tupK K) (pv 1) pe_int (fun _ _ => rfl))) (pg_tupK (n := 2) K rfl (pgs_cons (pg_name (i := 4) nd rfl (Or.inl rfl)) (pgs_cons (pg_name (i := 5) nd rfl (Or.inl rfl)) pgs_nil))) (pss_cons (ps_asg (pe_tup (pa_cons (pe_op op_add pe_int (pe_def D__law_draw (hr.mono (by decide)) (by rfl) (pa_cons (pv 0) (pa_cons (pe_op op_sub (pv 4) pe_int) pa_nil)))) (pa_cons (pe_callTy (call_listK K) (by rfl) B.list_ (by decide +kernel) (pa_cons (pv 5) pa_nil)) pa_nil))) (pg_tupK (n := 2) K rfl (pgs_cons (pg_name (i := 6) nd rfl (Or.inr rfl)) (pgs_cons (pg_name (i := 7) nd rfl (Or.inl rfl)) pgs_nil))))
      (pss_cons (ps_if (pt_cmpR op_lt (pv 2) pe_int (nomark _)) (pss_one (ps_setLc (i := 7) (own := [("_law_q", 8), ("_law_root", 9)]) rfl nd rfl rfl (sw_true rfl rfl rfl (by decide +kernel)) (pi_tupK K (pv 5)) (blkOk_by (N := N__law_near) (sc := (defScope s__law_near)) (by decide +kernel)) (fun _ _ _ _ _ => (pg_tupK (n := 2) K rfl (pgs_cons (pg_name (i := 8) nd rfl (Or.inl rfl)) (pgs_cons (pg_name (i := 9) nd rfl (Or.inl rfl)) pgs_nil)))) (fun _ _ _ _ _ => pts_nil) (fun _ _ _ _ _ => (pe_tup (pa_cons (pv 8) (pa_cons (pe_def D__law_up (hr.mono (by decide)) (by rfl) (pa_cons (pv 9) (pa_cons (pv 6) (pa_cons (pv 8) pa_nil)))) pa_nil)))))) pss_nil)
      (pss_cons (ps_if (PW.pt (pw_or (pt_cmpR op_eq (pv 2) pe_int (nomark _)) (pw_or1 (pt_cmpR op_eq (pv 2) pe_int (nomark _))))) (pss_cons (ps_set (i := 10) nd rfl (Or.inl rfl) (pe_def D__law_draw (hr.mono (by decide)) (by rfl) (pa_cons (pv 0) (pa_cons (pe_callB (call_lenK K) (by rfl) B.len_ (by decide +kernel) (pa_cons (pv 5) pa_nil)) pa_nil))))
      (pss_one (ps_asg (pe_tup (pa_cons (pe_ix (ix_tupK K) (pe_ix (ix_listK K) (pv 7) (pv 10) (fun _ _ => rfl)) pe_int (fun _ _ => rfl)) (pa_cons (pe_def D__law_any (hr.mono (by decide)) (by rfl) (pa_cons (pv 0) (pa_cons (pe_def D__law_roots (hr.mono (by decide)) (by rfl) (pa_cons (pv 4) (pa_cons (pe_ix (ix_tupK K) (pe_ix (ix_listK K) (pv 7) (pv 10) (fun _ _ => rfl)) pe_int (fun _ _ => rfl)) pa_nil))) pa_nil))) pa_nil))) (pg_sub (pv 7) (pv 10) set_list)))) pss_nil)
      (pss_cons (ps_if (PW.pt (pw_and (pt_cmpR op_eq (pv 2) pe_int (nomark _)) (pw_and1 (pt_cmpR op_eq (pe_def D__law_draw (hr.mono (by decide)) (by rfl) (pa_cons (pv 0) (pa_cons pe_int pa_nil))) pe_int (nomark _))))) (pss_one (ps_set (i := 7) nd rfl (Or.inl rfl) (pe_slice (sl_listK K) (pv 7) (po_some pe_int) po_none))) pss_nil)
      (pss_one (ps_if (pt_cmpR (op_neDK K hr.units) (pv 7) (pe_lst pa_nil) (nomark _)) (pss_one (ps_expr (pe_bm PySem.F.plainAttrs_list PySem.F.slot_list_append PySem.F.type_list_append mt_append (pv 3) (pa_cons (pe_tup (pa_cons (pv 4) (pa_cons (pe_callTy (call_tupFK K) (by rfl) B.tuple_ (by decide +kernel) (pa_cons (pv 7) pa_nil)) pa_nil))) pa_nil)))) pss_nil)))))))
      (pss_one (ps_ret (pe_tup (pa_cons (pe_ix (ix_tupK K) (pv 1) pe_int (fun _ _ => rfl)) (pa_cons (pe_callTy (call_tupFK K) (by rfl) B.tuple_ (by decide +kernel) (pa_cons (pv 3) pa_nil)) pa_nil))))))), body_okS (N := N__law_near) h fun x hp => ?_⟩
  obtain ⟨T, hWx⟩ : ∃ T, T = x := ⟨x, rfl⟩
  subst hWx
  have hc : CH T := hp
  have hw := hc.w
  have pl := hw.pl
  have ml := hw.ml
  show DS _ [.src, .d (dTab T), .un, .un, .un, .un, .un, .un, .un, .un, .un] _
  apply ds_seq
  refine ds_parEL (de__law_draw (m := 4) rfl (da_cons dv_int da_nil) ⟨by decide, by decide⟩) (dl_lst da_nil) ?_
  rintro d ⟨way, hway, rfl⟩
  apply ds_seq
  refine ds_for T.2 dMv (fun m => [(4, .int m.1), (5, dRow m.2)]) (fun i s => ∃ a b c e g h q rows, s = [.src, .d (dTab T), .d (.int way), .ml (rows.map dMv), a, b, c, e, g, h, q] ∧ NR T i rows) (di_tup (d := .tuf (T.2.map dMv)) ?_ rfl) (fun _ _ => dg_tup rfl (dgs_cons (dgs_cons dgs_nil))) ⟨_, _, _, _, _, _, _, [], rfl, List.Sublist.refl _, fun _ h => by cases h⟩ ?_ ?_
  · repeat' walk_at "s"
  · rintro i m s hi ⟨a, b, c, e, g, h, q, rows, rfl, nr⟩
    have wm := hw.mv m (mem_at hi)
    have m2 := ps_of hw wm.mi
    have wr0 : WR (m.2.map (·.1)) m.1 m.2 := ⟨wm.so, wm.ln, fun e he => ⟨List.mem_map.mpr ⟨e, he, rfl⟩, (wm.ed e he).2⟩⟩
    have rlen : 0 < m.2.length := List.length_pos_iff.mpr wm.ne
    have rln := wm.ln
    have rowsl : rows.length ≤ 5 := by
      have h3 : (rows.map (·.1)).length = rows.length := List.length_map ..
      have h4 := nr.mv.length_le
      rw [h3, List.length_map, List.length_take] at h4
      omega
    apply ds_seq
    refine ds_tupEL (Pd := fun d => ∃ k : Int, (1 ≤ k ∧ k < m.1) ∧ d = .int k) (de_op2 dv_int (de__law_draw (m := m.1 - 1) rfl (da_cons (dv_op (dv_var rfl) dv_int ov_I0) da_nil) ⟨by omega, by omega⟩) fun y hy => (by
      obtain ⟨n, hn, rfl⟩ := hy
      exact ⟨.int (1 + n), ov_I0, 1 + n, by omega, rfl⟩)) (dl_cb (da_cons (dv_var rfl) da_nil) (cl_listK (d := dRow m.2) rfl)) ?_
    rintro d ⟨k, hk, rfl⟩
    have kN : ((k.toNat : Nat) : Int) = k := by omega
    -- late: some right row
    apply ds_seq
    refine ds_mono (P := { nx := fun s => ∃ g h q r, s = [.src, .d (dTab T), .d (.int way), .ml (rows.map dMv), .d (.int m.1), .d (dRow m.2), .d (.int k), .ml (r.map dPr), g, h, q] ∧ WR (m.2.map (·.1)) m.1 r ∧ r.length = m.2.length, rt := fun _ => False }) ?_ ?_ (fun _ h => h.elim) (fun _ h => h.elim) (fun _ h => h.elim) (fun _ h => h.elim)
    · apply ds_if (b := decide (way < 2))
      · apply dt_test
        exact dv_op (dv_var rfl) dv_int ov_B0
      · intro _
        apply ds_asgL (xs := (m.2.map fun e => (e.1, upM e.2 k.toNat e.1)).map dPr)
        · rw [List.map_map]
          refine dl_lc0 m.2 dPr (fun e => [(8, .int e.1), (9, .int e.2)]) (fun e => dPr (e.1, upM e.2 k.toNat e.1)) (di_tup (d := dRow m.2) (dv_var rfl) rfl) (fun _ _ => dg_tup rfl (dgs_cons (dgs_cons dgs_nil))) (fun _ _ => rfl) (fun e he => ?_) (by omega)
          have e2 := ps_of hw (wm.ed e he).1
          exact dv_tup2 (dv_var rfl) (cl__law_up (da_cons (dv_var rfl) (da_cons (dv_var rfl) (da_cons (dv_var rfl) da_nil))) ⟨by omega, by omega, by omega, by omega⟩)
        · exact ⟨_, _, _, _, rfl, wr_pow wr0 (by omega) (by omega), List.length_map ..⟩
      · intro _
        apply ds_nx
        exact ⟨_, _, _, m.2, rfl, wr0, rfl⟩
    rintro s ⟨g, h, q, r, rfl, wr, rl⟩
    apply ds_seq
    refine ds_mono (P := { nx := fun s => ∃ g h q r, s = [.src, .d (dTab T), .d (.int way), .ml (rows.map dMv), .d (.int m.1), .d (dRow m.2), .d (.int k), .ml (r.map dPr), g, h, q] ∧ WR (m.2.map (·.1)) m.1 r, rt := fun _ => False }) ?_ ?_ (fun _ h => h.elim) (fun _ h => h.elim) (fun _ h => h.elim) (fun _ h => h.elim)
    · apply ds_if (b := decide (way = 1) || decide (way = 2))
      · apply dt_or
        · apply dt_test
          exact dv_op (dv_var rfl) dv_int ov_eqI
        · intro _
          apply dt_test
          exact dv_op (dv_var rfl) dv_int ov_eqI
      · intro _
        apply ds_seq
        refine ds_setE (de__law_draw (m := (m.2.length : Nat)) rfl (da_cons (DV.cast (dv_cb (da_cons (dv_var rfl) da_nil) (cv_lenK (d := dRow m.2) rfl)) (by rw [List.length_map])) da_nil) ⟨by omega, by omega⟩) ?_
        rintro d ⟨n, hn, rfl⟩
        have nl : n.toNat < r.length := by omega
        have hj : r[n.toNat]? = some r[n.toNat] := List.getElem?_eq_getElem nl
        generalize r[n.toNat] = v at hj
        obtain ⟨v1, v2, v3⟩ := wr.ed v (mem_at hj)
        have v1' : v.1 ∈ T.1 := by
          obtain ⟨e, he, h⟩ := List.mem_map.mp v1
          rw [← h]
          exact (wm.ed e he).1
        have v5 := ps_of hw v1'
        have er : rootsM m.1 v.1 ≠ [] ∧ (rootsM m.1 v.1).length < 100 ∧ _ := es_roots v2
        have en : n = ((n.toNat : Nat) : Int) := by omega
        have ix : atI (r.map dPr) n = some (dPr v) := by
          have := atI_map (E := dPr) hj
          rw [← en] at this
          exact this
        refine ds_setLE (i := 7) (xs := r.map dPr) (k := n) (j := n.toNat) (Pd := fun d => ∃ gg, gg ∈ rootsM m.1 v.1 ∧ d = dPr (v.1, gg)) rfl (de_pair (d := .int v.1) ?_ (de__law_any (x := (rootsM m.1 v.1).map D.int) rfl (da_cons (cl__law_roots (p := m.1) (q := v.1) (da_cons (dv_var rfl) (da_cons ?_ da_nil)) ⟨by omega, by omega, by omega, by omega⟩) da_nil) ⟨fun hh => er.1 (List.map_eq_nil_iff.mp hh), by rw [List.length_map]; have := er.2.1; omega⟩) fun y hy => ?_) (dv_var rfl) ?_ ?_
        · refine dv_peek (i := 7) rfl rfl ?_
          exact dv_op (dv_op (dv_var (d := .lst (r.map dPr)) rfl) (dv_var rfl) (ov_ixL ix)) dv_int (ov_ixT rfl rfl)
        · refine dv_peek (i := 7) rfl rfl ?_
          exact dv_op (dv_op (dv_var (d := .lst (r.map dPr)) rfl) (dv_var rfl) (ov_ixL ix)) dv_int (ov_ixT rfl rfl)
        · obtain ⟨gg, hg, rfl⟩ := List.mem_map.mp hy
          exact ⟨gg, hg, rfl⟩
        · unfold ixN
          rw [if_pos hn.1, if_pos (by rw [List.length_map]; omega)]
        · rintro d ⟨gg, hg, rfl⟩
          have hset : (r.map dPr).set n.toNat (dPr (v.1, gg)) = (r.set n.toNat (v.1, gg)).map dPr := by rw [List.map_set]
          exact ⟨g, h, .d (.int n), r.set n.toNat (v.1, gg), by rw [← hset] <;> rfl, wr_set wr hj hg⟩
      · intro _
        apply ds_nx
        exact ⟨_, _, _, r, rfl, wr⟩
    clear rl wr r g h q
    rintro s ⟨g, h, q, r, rfl, wr⟩
    apply ds_seq
    refine ds_mono (P := { nx := fun s => ∃ g h q r, s = [.src, .d (dTab T), .d (.int way), .ml (rows.map dMv), .d (.int m.1), .d (dRow m.2), .d (.int k), .ml (r.map dPr), g, h, q] ∧ WR (m.2.map (·.1)) m.1 r, rt := fun _ => False }) ?_ ?_ (fun _ h => h.elim) (fun _ h => h.elim) (fun _ h => h.elim) (fun _ h => h.elim)
    · refine ds_ifE (Pb := fun _ => True) (dte_and (a := decide (way = 3)) (P := fun _ => True) ?_ (fun _ => dte_test (de_op1 (Q := fun d => ∃ b, d = .bl b) (de__law_draw (m := 2) rfl (da_cons dv_int da_nil) ⟨by decide, by decide⟩) dv_int fun y hy => ?_) fun d hd => ?_) (fun _ => trivial) (fun _ _ _ => trivial)) (fun _ => ?_) (fun _ => ?_)
      · apply dt_test
        exact dv_op (dv_var rfl) dv_int ov_eqI
      · obtain ⟨n, _, rfl⟩ := hy
        exact ⟨_, ov_eqI, _, rfl⟩
      · obtain ⟨b, rfl⟩ := hd
        exact ⟨b, rfl, trivial⟩
      · refine ds_frz 7 rfl ?_
        apply ds_asgL (xs := (r.map dPr).drop (HT.sIx (r.map dPr).length 0 (some 1)))
        · exact dl_from (dv_var rfl) dv_int
        · exact ⟨_, _, _, r.drop (HT.sIx (r.map dPr).length 0 (some 1)), by rw [List.map_drop] <;> rfl, wr_drop wr _⟩
      · apply ds_nx
        exact ⟨_, _, _, r, rfl, wr⟩
    clear wr r g h q
    rintro s ⟨g, h, q, r, rfl, wr⟩
    refine ds_frz 7 rfl ?_
    apply ds_if (b := !decide (r = []))
    · apply dt_test
      exact dv_op (dv_var rfl) (dv_emp dPr) (ov_neLL eqPr (by decide))
    · intro hb
      have hr : r ≠ [] := by simpa using hb
      apply ds_app (xs := rows.map dMv) rfl
      · exact dv_tup2 (dv_var rfl) (dv_cb (da_cons (dv_var rfl) da_nil) cv_tupF)
      · rw [List.length_map]
        omega
      · refine ⟨_, _, _, _, _, _, _, rows ++ [(m.1, r)], by rw [List.map_append] <;> rfl, ?_, fun m' hm' => ?_⟩
        · rw [take_snoc hi, List.map_append, List.map_append]
          exact nr.mv.append (List.Sublist.refl _)
        · rcases List.mem_append.mp hm' with z | z
          · exact nr.rw m' z
          · rw [List.mem_singleton.mp z]
            exact ⟨m, mem_at hi, rfl, hr, wr⟩
    · intro hb
      apply ds_nx
      refine ⟨_, _, _, _, _, _, _, rows, rfl, ?_, nr.rw⟩
      rw [take_snoc hi, List.map_append]
      exact nr.mv.trans (List.sublist_append_left _ _)
  · rintro s ⟨a, b, c, e, g, h, q, rows, rfl, nr⟩
    have sub := nr.mv
    rw [List.take_length] at sub
    refine ds_frz 3 rfl ?_
    apply ds_ret (d := dTab (T.1, rows))
    · exact dv_tup2 (dv_op (dv_var rfl) dv_int (ov_ixT (f := dFI T.1) rfl rfl)) (dv_cb (da_cons (dv_var rfl) da_nil) cv_tupF)
    · have wf : ∀ m' ∈ rows, WFm T.1 m' := fun m' hm' => by
        obtain ⟨m, hm, e1, e2, e3⟩ := nr.rw m' hm'
        have wm := hw.mv m hm
        refine ⟨by rw [e1]; exact wm.mi, e2, e3.so, e3.ln, fun e he => ?_⟩
        obtain ⟨a, b⟩ := e3.ed e he
        obtain ⟨y, hy, h⟩ := List.mem_map.mp a
        rw [e1]
        exact ⟨by rw [← h]; exact (wm.ed y hy).1, b⟩
      refine ⟨(T.1, rows), ⟨⟨hw.ps, hw.pin, hw.pl, hw.ms.sublist sub, ?_, wf, fun m hm m' hm' e he => ?_⟩, hc.l2, ?_⟩, rfl, rfl⟩
      · have h3 := sub.length_le
        rw [List.length_map, List.length_map] at h3
        show rows.length ≤ 5
        omega
      · obtain ⟨m1, hm1, a1, _⟩ := nr.rw m hm
        obtain ⟨m2, hm2, b1, b2, b3⟩ := nr.rw m' hm'
        obtain ⟨y, hy, h⟩ := List.mem_map.mp (b3.ed e he).1
        rw [a1, ← h]
        exact hw.nc m1 hm1 m2 hm2 y hy
      · exact Int.le_trans (prodI_sub sub fun y hy => by have := ps_of hw (mover_in hw hy); omega).1 hc.pm
theorem de__law_near {i : Nat} {T : Tab} (hi : sl[i]? = some .src) (h : DA tr sl [dTab T]) (hw : CH T) : DE (tCall sp__law_near [] E (tCons (tVar i) tr)) sl (resNear T) := de_call (enc := fun x : Tab => [dTab x]) T hi h hw
end
end Wa
set_option maxHeartbeats 4000000
namespace Wa
open PySem PySem.Spec PyProof.Rows L2
local macro_rules | `(tactic| walk_at "s") => `(tactic| first
  | with_reducible exact dv_int | with_reducible exact dv_bl | with_reducible exact dv_str | with_reducible exact dv_non
  | ((with_reducible apply dv_var); first | rfl | (show _ = _; assumption))
  | with_reducible apply dv_op
  | with_reducible apply da_cons | with_reducible exact da_nil
  | with_reducible apply dv_tup2 | with_reducible apply dv_tup1 | with_reducible apply dv_tup3 | with_reducible exact dv_tup0
  | with_reducible apply dv_isN | with_reducible apply dv_notN
  | with_reducible apply dt_test | with_reducible apply dt_B | with_reducible exact dt_yes
  | with_reducible apply (dt_and ?_ fun _ => ?_) | with_reducible apply (dt_or ?_ fun _ => ?_) | with_reducible apply dt_not
  | with_reducible apply (dv_and ?_ fun _ => ?_) | with_reducible apply dv_not
  | with_reducible apply (dv_chain (g := D.non) ?_ ?_ ?_ (fun _ => ?_) (fun _ => ?_))
  | with_reducible exact ov_I0 | with_reducible exact ov_B0 | ((with_reducible apply ov_I); first | (show 0 < _; omega) | (unfold CDiv; omega) | (unfold CMul; omega) | (unfold CDivN; omega) | skip)
  | with_reducible exact ov_eqI | with_reducible exact ov_neI | with_reducible exact ov_eqB | with_reducible exact ov_eqS | with_reducible exact ov_notB
  | with_reducible exact ov_isN | with_reducible exact ov_notN
  | with_reducible apply dv_neg
  | with_reducible apply dv_isInt | with_reducible apply dv_isBool
  | with_reducible apply dv_cb
  | (with_reducible exact cv_tupleK) | (with_reducible exact cv_tupF) | (with_reducible exact cv_intK) | (with_reducible exact cv_sum) | (with_reducible exact cv_all) | (with_reducible exact cv_any) | ((with_reducible apply cv_lenK); rfl)
  | (exact ov_ixT rfl rfl) | (exact ov_ixL rfl)
  | with_reducible apply dv_din | with_reducible apply dv_dnotin
  | (show D.items _ = some _; rfl) | (show D.seq _ = some _; rfl) | ((show WF _); assumption))
local macro_rules | `(tactic| walk_at "s") => `(tactic| first | with_reducible apply cl_power_in | with_reducible apply cl_size_in | with_reducible apply cl_weight_of | with_reducible apply cl_rows_in | with_reducible apply cl_web_in | with_reducible apply cl_movers_in | with_reducible apply cl_moved_in | with_reducible apply cl_still_in | with_reducible apply cl_moved_by | with_reducible apply cl_movers_on | with_reducible apply cl_struck_by | with_reducible apply cl_subsets_of | with_reducible apply cl_cut_in | with_reducible apply cl_log_in | with_reducible apply cl_row_power | with_reducible apply cl_power_in_rows | with_reducible apply cl_alike_in | with_reducible apply cl_is_undivided | with_reducible apply cl_is_whole_number | with_reducible apply cl_is_count | with_reducible apply cl_is_small_prime | with_reducible apply cl_is_pair | with_reducible apply cl_are_rising | with_reducible apply cl_are_primes_among | with_reducible apply cl_prime_fault | with_reducible apply cl_move_fault | with_reducible apply cl_row_fault | with_reducible apply cl_table_fault | with_reducible apply cl_want2 | with_reducible apply cl_want_table1 | with_reducible apply cl_want_table2 | with_reducible apply cl_want_primes2 | with_reducible apply cl_want_both | with_reducible apply cl_are_alike | with_reducible apply cl_moved_out | with_reducible apply cl_parts_in | with_reducible apply cl_part_count | with_reducible apply cl_is_like_part | with_reducible apply cl_alike_parts_in | with_reducible apply cl_parts_alike | with_reducible apply cl_cut_to | with_reducible apply cl_other_moved | with_reducible apply cl_twisted_in | with_reducible apply cl_twisted_count | with_reducible apply cl__law_up | with_reducible apply cl__law_roots | with_reducible apply cl__law_movers | with_reducible apply cl__law_row | with_reducible apply cl__law_web | with_reducible apply cl__law_power_between | with_reducible apply cl__law_are_alike | with_reducible apply cl__law_cut | with_reducible apply cl__law_threes | with_reducible apply cl__law_many | with_reducible apply cl__law_factors | with_reducible apply cl__law_twist )
abbrev World0 := List Int × List Pr
def wl0 : List World0 := [([2, 3], [(2, 3)]), ([2, 5], [(2, 5)]), ([3, 7], [(3, 7)]), ([2, 3, 5], [(2, 3), (2, 5)]), ([2, 3, 5], [(2, 5)])]
def wl1 : List World0 := [([2, 3, 7], [(2, 7), (3, 7)]), ([2, 3, 7], [(3, 7)]), ([2, 3, 7], [(2, 3), (2, 7)]), ([2, 5, 11], [(2, 11), (5, 11)])]
def wl2 : List World0 := [([5, 11], [(5, 11)]), ([7], []), ([], []), ([2, 3, 5], [])]
def wl3 : List World0 := [([3, 7, 13], [(3, 7), (3, 13)]), ([2, 3, 7, 13], [(2, 13), (3, 7), (3, 13)]), ([5, 11, 31], [(5, 11), (5, 31)])]
def wl4 : List World0 := [([3, 7, 13, 19], [(3, 7), (3, 13), (3, 19)]), ([2, 3, 5, 7, 11], [(2, 5), (2, 7), (3, 7)])]
def wl5 : List World0 := [([3, 5, 11, 31], [(3, 31), (5, 11), (5, 31)]), ([3, 7, 13, 17], [(3, 7), (3, 13)]), ([5, 7, 11, 31], [(5, 11), (5, 31)])]
def worldsM : List World0 := wl0 ++ wl1 ++ wl2 ++ wl3 ++ wl4 ++ wl5
def nodupB (xs : List Int) : Bool := decide (xs.Pairwise (· < ·))
def wwB (W : World0) : Bool := decide (W.1.Pairwise (· < ·)) && W.1.all (fun p => decide (p ∈ PS)) && decide (W.1.length ≤ 5) && W.2.all (fun e => decide (e.1 ∈ W.1) && decide (e.2 ∈ W.1) && decide (e ∈ ES)) &&
  W.1.all (fun p => decide (((W.2.filter fun e => decide (e.1 = p)).map (·.2)).Pairwise (· < ·))) && W.2.all (fun e => W.2.all fun e' => !decide (e.1 = e'.2)) && decide (W.2.length ≤ 5) && decide (2 ≤ W.1.length) && decide (prodI (W.1.filter fun p => W.2.any fun e => decide (e.1 = p)) ≤ 1000)
theorem wwB_ok {W : World0} (h : wwB W = true) : WW W := by
  unfold wwB at h
  simp only [Bool.and_eq_true, List.all_eq_true, decide_eq_true_eq, Bool.not_eq_true', decide_eq_false_iff_not] at h
  obtain ⟨⟨⟨⟨⟨⟨⟨⟨a, b⟩, c⟩, d⟩, e⟩, f⟩, g⟩, i⟩, j⟩ := h
  exact ⟨a, b, c, fun x hx => ⟨(d x hx).1.1, (d x hx).1.2, (d x hx).2⟩, e, f, g, i, j⟩
theorem worlds_all : (worldsM.all fun W => !decide (1 < W.1.length) || wwB W) = true := by decide +kernel
theorem worlds_ok {W : World0} (h : W ∈ worldsM) (h2 : 1 < W.1.length) : WW W := by
  have := List.all_eq_true.mp worlds_all W h
  rw [decide_eq_true h2] at this
  exact wwB_ok (by simpa using this)
def bigW : List World0 := worldsM.filter fun W => decide (1 < W.1.length)
section
variable {P : Program} {w : World} {K : PySem.W.Frag} {mg : Str → Option Value} {base : Heap} {f : Addr} {fd : FuncData} {tv : Value} {sl : List Sl} {tr : TA} {E : XK} {te tu : TE}
theorem dv_tF0 : DV (tTupF tNil) sl (.tuf []) := dv_tupF da_nil (by simp)
theorem dv_tF1 {ta : TE} {a : D} (ha : DV ta sl a) : DV (tTupF (tCons ta tNil)) sl (.tuf [a]) := dv_tupF (da_cons ha da_nil) (by simp)
theorem dv_tF2 {ta tb : TE} {a b : D} (ha : DV ta sl a) (hb : DV tb sl b) : DV (tTupF (tCons ta (tCons tb tNil))) sl (.tuf [a, b]) := dv_tupF (da_cons ha (da_cons hb da_nil)) (by simp)
theorem dv_tF3 {ta tb tc : TE} {a b c : D} (ha : DV ta sl a) (hb : DV tb sl b) (hc : DV tc sl c) : DV (tTupF (tCons ta (tCons tb (tCons tc tNil)))) sl (.tuf [a, b, c]) := dv_tupF (da_cons ha (da_cons hb (da_cons hc da_nil))) (by simp)
theorem dv_tF4 {ta tb tc td : TE} {a b c d : D} (ha : DV ta sl a) (hb : DV tb sl b) (hc : DV tc sl c) (hd : DV td sl d) : DV (tTupF (tCons ta (tCons tb (tCons tc (tCons td tNil))))) sl (.tuf [a, b, c, d]) := dv_tupF (da_cons ha (da_cons hb (da_cons hc (da_cons hd da_nil)))) (by simp)
theorem dv_tF5 {ta tb tc td tf : TE} {a b c d f : D} (ha : DV ta sl a) (hb : DV tb sl b) (hc : DV tc sl c) (hd : DV td sl d) (hf : DV tf sl f) : DV (tTupF (tCons ta (tCons tb (tCons tc (tCons td (tCons tf tNil)))))) sl (.tuf [a, b, c, d, f]) := dv_tupF (da_cons ha (da_cons hb (da_cons hc (da_cons hd (da_cons hf da_nil))))) (by simp)
theorem dv_lstN {tr : TA} {ds : List D} (h : DA tr sl ds) (hl : ds.length ≤ 1000) : DV (tLst tr) sl (.lst ds) := (dl_lst h hl).v
local macro_rules | `(tactic| walk_at "s") => `(tactic| first | with_reducible apply dv_tF2 | with_reducible apply dv_tF3 | with_reducible exact dv_tF0 | with_reducible apply dv_tF1 | with_reducible apply dv_tF4 | with_reducible apply dv_tF5)

abbrev s__law_worlds : Stmt := topS 73
abbrev N__law_worlds : List Str := ["_law_some"]
theorem sc__law_worlds : FnScope N__law_worlds [] (defScope s__law_worlds) := ⟨rfl, rfl, rfl, by decide +kernel, rfl, by decide +kernel, by decide +kernel⟩
def sp__law_worlds : Sp := spF (fun _ : Unit => []) (fun _ => True) (fun _ => .lst (worldsM.map dWorld))
theorem ok__law_worlds  (F : Fun K "_law_worlds" "_law_worlds" s__law_worlds f fd) : FnOk P w K mg base CX0 1 f fd [] sp__law_worlds := by
  have nd := sc__law_worlds.nd
  refine F.ok (k := 0) sc__law_worlds (fun vs H Q E h => spF_len (n:=0) (fun _ => rfl) h) (fun cdv A outer s H vs Q E hr h => ?_)
  refine ⟨_, (pss_cons (ps_set (i := 0) nd rfl (Or.inl rfl) (pe_lst (pa_cons (pe_tup (pa_cons (pe_tupF (pa_cons pe_int (pa_cons pe_int pa_nil))) (pa_cons (pe_tup (pa_cons (pe_tup (pa_cons pe_int (pa_cons pe_int pa_nil))) pa_nil)) pa_nil))) (pa_cons (pe_tup (pa_cons (pe_tupF (pa_cons pe_int (pa_cons pe_int pa_nil))) (pa_cons (pe_tup (pa_cons (pe_tup (pa_cons pe_int (pa_cons pe_int pa_nil))) pa_nil)) pa_nil))) (pa_cons (pe_tup (pa_cons (pe_tupF (pa_cons pe_int (pa_cons pe_int pa_nil))) (pa_cons (pe_tup (pa_cons (pe_tup (pa_cons pe_int (pa_cons pe_int pa_nil))) pa_nil)) pa_nil))) (pa_cons (pe_tup (pa_cons (pe_tupF (pa_cons pe_int (pa_cons pe_int (pa_cons pe_int pa_nil)))) (pa_cons (pe_tup (pa_cons (pe_tup (pa_cons pe_int (pa_cons pe_int pa_nil))) (pa_cons (pe_tup (pa_cons pe_int (pa_cons pe_int pa_nil))) pa_nil))) pa_nil))) (pa_cons (pe_tup (pa_cons (pe_tupF (pa_cons pe_int (pa_cons pe_int (pa_cons pe_int pa_nil)))) (pa_cons (pe_tup (pa_cons (pe_tup (pa_cons pe_int (pa_cons pe_int pa_nil))) pa_nil)) pa_nil))) pa_nil)))))))
      (pss_cons (ps_set (i := 0) nd rfl (Or.inl rfl) (pe_op op_cat (pv 0) (pe_lst (pa_cons (pe_tup (pa_cons (pe_tupF (pa_cons pe_int (pa_cons pe_int (pa_cons pe_int pa_nil)))) (pa_cons (pe_tup (pa_cons (pe_tup (pa_cons pe_int (pa_cons pe_int pa_nil))) (pa_cons (pe_tup (pa_cons pe_int (pa_cons pe_int pa_nil))) pa_nil))) pa_nil))) (pa_cons (pe_tup (pa_cons (pe_tupF (pa_cons pe_int (pa_cons pe_int (pa_cons pe_int pa_nil)))) (pa_cons (pe_tup (pa_cons (pe_tup (pa_cons pe_int (pa_cons pe_int pa_nil))) pa_nil)) pa_nil))) (pa_cons (pe_tup (pa_cons (pe_tupF (pa_cons pe_int (pa_cons pe_int (pa_cons pe_int pa_nil)))) (pa_cons (pe_tup (pa_cons (pe_tup (pa_cons pe_int (pa_cons pe_int pa_nil))) (pa_cons (pe_tup (pa_cons pe_int (pa_cons pe_int pa_nil))) pa_nil))) pa_nil))) (pa_cons (pe_tup (pa_cons (pe_tupF (pa_cons pe_int (pa_cons pe_int (pa_cons pe_int pa_nil)))) (pa_cons (pe_tup (pa_cons (pe_tup (pa_cons pe_int (pa_cons pe_int pa_nil))) (pa_cons (pe_tup (pa_cons pe_int (pa_cons pe_int pa_nil))) pa_nil))) pa_nil))) pa_nil)))))))
      (pss_cons (ps_set (i := 0) nd rfl (Or.inl rfl) (pe_op op_cat (pv 0) (pe_lst (pa_cons (pe_tup (pa_cons (pe_tupF (pa_cons pe_int (pa_cons pe_int pa_nil))) (pa_cons (pe_tup (pa_cons (pe_tup (pa_cons pe_int (pa_cons pe_int pa_nil))) pa_nil)) pa_nil))) (pa_cons (pe_tup (pa_cons (pe_tupF (pa_cons pe_int pa_nil)) (pa_cons (pe_tup pa_nil) pa_nil))) (pa_cons (pe_tup (pa_cons (pe_tupF pa_nil) (pa_cons (pe_tup pa_nil) pa_nil))) (pa_cons (pe_tup (pa_cons (pe_tupF (pa_cons pe_int (pa_cons pe_int (pa_cons pe_int pa_nil)))) (pa_cons (pe_tup pa_nil) pa_nil))) pa_nil)))))))
      (pss_cons (ps_set (i := 0) nd rfl (Or.inl rfl) (pe_op op_cat (pv 0) (pe_lst (pa_cons (pe_tup (pa_cons (pe_tupF (pa_cons pe_int (pa_cons pe_int (pa_cons pe_int pa_nil)))) (pa_cons (pe_tup (pa_cons (pe_tup (pa_cons pe_int (pa_cons pe_int pa_nil))) (pa_cons (pe_tup (pa_cons pe_int (pa_cons pe_int pa_nil))) pa_nil))) pa_nil))) (pa_cons (pe_tup (pa_cons (pe_tupF (pa_cons pe_int (pa_cons pe_int (pa_cons pe_int (pa_cons pe_int pa_nil))))) (pa_cons (pe_tup (pa_cons (pe_tup (pa_cons pe_int (pa_cons pe_int pa_nil))) (pa_cons (pe_tup (pa_cons pe_int (pa_cons pe_int pa_nil))) (pa_cons (pe_tup (pa_cons pe_int (pa_cons pe_int pa_nil))) pa_nil)))) pa_nil))) (pa_cons (pe_tup (pa_cons (pe_tupF (pa_cons pe_int (pa_cons pe_int (pa_cons pe_int pa_nil)))) (pa_cons (pe_tup (pa_cons (pe_tup (pa_cons pe_int (pa_cons pe_int pa_nil))) (pa_cons (pe_tup (pa_cons pe_int (pa_cons pe_int pa_nil))) pa_nil))) pa_nil))) pa_nil))))))
      (pss_cons (ps_set (i := 0) nd rfl (Or.inl rfl) (pe_op op_cat (pv 0) (pe_lst (pa_cons (pe_tup (pa_cons (pe_tupF (pa_cons pe_int (pa_cons pe_int (pa_cons pe_int (pa_cons pe_int pa_nil))))) (pa_cons (pe_tup (pa_cons (pe_tup (pa_cons pe_int (pa_cons pe_int pa_nil))) (pa_cons (pe_tup (pa_cons pe_int (pa_cons pe_int pa_nil))) (pa_cons (pe_tup (pa_cons pe_int (pa_cons pe_int pa_nil))) pa_nil)))) pa_nil))) (pa_cons (pe_tup (pa_cons (pe_tupF (pa_cons pe_int (pa_cons pe_int (pa_cons pe_int (pa_cons pe_int (pa_cons pe_int pa_nil)))))) (pa_cons (pe_tup (pa_cons (pe_tup (pa_cons pe_int (pa_cons pe_int pa_nil))) (pa_cons (pe_tup (pa_cons pe_int (pa_cons pe_int pa_nil))) (pa_cons (pe_tup (pa_cons pe_int (pa_cons pe_int pa_nil))) pa_nil)))) pa_nil))) pa_nil)))))
      (pss_one (ps_ret (pe_op op_cat (pv 0) (pe_lst (pa_cons (pe_tup (pa_cons (pe_tupF (pa_cons pe_int (pa_cons pe_int (pa_cons pe_int (pa_cons pe_int pa_nil))))) (pa_cons (pe_tup (pa_cons (pe_tup (pa_cons pe_int (pa_cons pe_int pa_nil))) (pa_cons (pe_tup (pa_cons pe_int (pa_cons pe_int pa_nil))) (pa_cons (pe_tup (pa_cons pe_int (pa_cons pe_int pa_nil))) pa_nil)))) pa_nil))) (pa_cons (pe_tup (pa_cons (pe_tupF (pa_cons pe_int (pa_cons pe_int (pa_cons pe_int (pa_cons pe_int pa_nil))))) (pa_cons (pe_tup (pa_cons (pe_tup (pa_cons pe_int (pa_cons pe_int pa_nil))) (pa_cons (pe_tup (pa_cons pe_int (pa_cons pe_int pa_nil))) pa_nil))) pa_nil))) (pa_cons (pe_tup (pa_cons (pe_tupF (pa_cons pe_int (pa_cons pe_int (pa_cons pe_int (pa_cons pe_int pa_nil))))) (pa_cons (pe_tup (pa_cons (pe_tup (pa_cons pe_int (pa_cons pe_int pa_nil))) (pa_cons (pe_tup (pa_cons pe_int (pa_cons pe_int pa_nil))) pa_nil))) pa_nil))) pa_nil)))))))))))), body_ok (N := N__law_worlds) h fun x hp => ?_⟩
  show DS _ [.un] _
  apply ds_seq
  apply ds_set (d := .lst (wl0.map dWorld))
  · apply DV.cast
    · apply dv_lstN
      · repeat' walk_at "s"
      · simp
    · rfl
  apply ds_seq
  apply ds_set (d := .lst ((wl0.map dWorld) ++ wl1.map dWorld))
  · refine dv_op (e := .lst (wl1.map dWorld)) (dv_var rfl) ?_ (ol_cat (by decide)).v
    apply DV.cast
    · apply dv_lstN
      · repeat' walk_at "s"
      · simp
    · rfl
  apply ds_seq
  apply ds_set (d := .lst (((wl0.map dWorld) ++ wl1.map dWorld) ++ wl2.map dWorld))
  · refine dv_op (e := .lst (wl2.map dWorld)) (dv_var rfl) ?_ (ol_cat (by decide)).v
    apply DV.cast
    · apply dv_lstN
      · repeat' walk_at "s"
      · simp
    · rfl
  apply ds_seq
  apply ds_set (d := .lst ((((wl0.map dWorld) ++ wl1.map dWorld) ++ wl2.map dWorld) ++ wl3.map dWorld))
  · refine dv_op (e := .lst (wl3.map dWorld)) (dv_var rfl) ?_ (ol_cat (by decide)).v
    apply DV.cast
    · apply dv_lstN
      · repeat' walk_at "s"
      · simp
    · rfl
  apply ds_seq
  apply ds_set (d := .lst (((((wl0.map dWorld) ++ wl1.map dWorld) ++ wl2.map dWorld) ++ wl3.map dWorld) ++ wl4.map dWorld))
  · refine dv_op (e := .lst (wl4.map dWorld)) (dv_var rfl) ?_ (ol_cat (by decide)).v
    apply DV.cast
    · apply dv_lstN
      · repeat' walk_at "s"
      · simp
    · rfl
  apply ds_ret (d := .lst ((((((wl0.map dWorld) ++ wl1.map dWorld) ++ wl2.map dWorld) ++ wl3.map dWorld) ++ wl4.map dWorld) ++ wl5.map dWorld))
  · refine dv_op (e := .lst (wl5.map dWorld)) (dv_var rfl) ?_ (ol_cat (by decide)).v
    apply DV.cast
    · apply dv_lstN
      · repeat' walk_at "s"
      · simp
    · rfl
  · show D.lst _ = D.lst (worldsM.map dWorld)
    unfold worldsM
    simp only [List.map_append]
theorem cl__law_worlds : DV (tCall sp__law_worlds [] E tNil) sl (.lst (worldsM.map dWorld)) := dv_call0 (enc := fun _ : Unit => []) () da_nil trivial
local macro_rules | `(tactic| walk_at "s") => `(tactic| with_reducible apply cl__law_worlds)

/-- in slot 0 stands the script (known to the object: no data of the layer) -/
def HasS (K : PySem.W.Frag) (a : Addr) (xs : List V) (σ : L2.St) (H : Hp) : Prop := σ[0]? = some (some (.ref a)) ∧ SqL K H a xs
def tWhen (K : PySem.W.Frag) (a : Addr) (xs : List V) (te : TE) : TE := fun σ H Q => HasS K a xs σ H → te σ H Q
theorem dl_upto {i : Int} {cs : List Int} {a : Addr} : DL (tWhen K a (cs.map V.int) (tSl (rSlL K) (tVar 0) tNoPart (tPart (tC (.int i))))) sl (((cs.drop 0).take (HT.sIx (cs.map D.int).length (cs.map D.int).length (some i) - 0)).map D.int) := fun S G H σ st Q q => by
  rintro ⟨e0, hS⟩
  refine ⟨_, e0, i, rfl, a, _, rfl, hS, fun p hp => q G _ p _ (Step.new0 st.gh hp) hp (ex_none st.gh hp) upd_same ?_⟩
  unfold cutV
  rw [List.length_map, List.length_map, ← List.map_drop, ← List.map_take]
  exact RpA.of_ints _
abbrev s__law_feed : Stmt := topS 68
abbrev N__law_feed : List Str := ["_law_script", "_law_cell"]
theorem sc__law_feed : FnScope N__law_feed ["_law_script"] (defScope s__law_feed) := ⟨rfl, rfl, rfl, by decide +kernel, rfl, by decide +kernel, by decide +kernel⟩
def sp__law_feed (K : PySem.W.Frag) : Sp := fun vs H Q _ => ∃ (G : Hp) (cs : List Int) (a : Addr), Ex G H ∧ vs = [.ref a] ∧ SqL K H a (cs.map V.int) ∧ ∀ G' H' p, Step none G H G' H' → H p = none → SrcAt G' H' p → Q (.ref p) H'
theorem feed_len {vs : List V} {H : Hp} {Q : VK} {E : XK} (h : sp__law_feed K vs H Q E) : vs.length = 1 := by
  obtain ⟨G, cs, a, _, rfl, _⟩ := h
  rfl
theorem ok__law_feed  (B : Blt mg tv) (F : Fun K "_law_feed" "_law_feed" s__law_feed f fd) : FnOk P w K mg base CX0 1 f fd ["_law_script"] (sp__law_feed K) := by
  have nd := sc__law_feed.nd
  refine F.ok (k := 0) sc__law_feed (fun vs H Q E h => feed_len h) (fun cdv A outer s H vs Q E hr h => ?_)
  refine ⟨_, (pss_one (ps_ret (pe_disp (pps_cons pe_str (pe_lc (own := [("_law_cell", 1)]) rfl nd (pi_listK K (pe_slice (sl_listK K) (pv 0) po_none (po_some pe_int))) (blkOk_by (N := N__law_feed) (sc := (defScope s__law_feed)) (by decide +kernel)) (fun _ _ _ _ _ => (pg_name (i := 1) nd rfl (Or.inl rfl))) (fun _ _ _ _ _ => pts_nil) (fun _ _ _ _ _ => (pe_callTy call_intK (by rfl) B.int_ (by decide +kernel) (pa_cons (pv 1) pa_nil)))) (pps_cons pe_str pe_int (pps_cons pe_str pe_int (pps_cons pe_str pe_int pps_nil)))) (by rfl) (by rfl) (by simp) (by decide)))), ?_⟩
  obtain ⟨G, cs, l0, gh, rfl, hS, q⟩ := h
  show tDisp _ _ H Q
  intro p hp
  have st : StE none G (upd H p (.dK [])) (start N__law_feed [.ref l0]) [.un, .un] := by
    refine ⟨gh.tr (Ex.new hp), rfl, fun i y e => ?_, fun a e => (nomatch e), fun i j y z p e1 e2 o1 => ?_⟩
    · match i, e with
      | 0, e =>
        cases e
        trivial
      | 1, e =>
        cases e
        trivial
      | n + 2, e => cases e
    · match i, e1 with
      | 0, e =>
        cases e
        cases o1
      | 1, e =>
        cases e
        cases o1
      | n + 2, e => cases e
  have gp := ex_none gh hp
  have hS2 : HasS K l0 (cs.map V.int) (start N__law_feed [.ref l0]) (upd H p (.dK [])) := ⟨rfl, hS.imp (fun h => (Ex.new hp).rd h) id⟩
  have hL : DL (tLc (iList K (tWhen K l0 (cs.map V.int) (tSl (rSlL K) (tVar 0) tNoPart (tPart (tC (V.int 62)))))) (gName 1) tYes (tCB rIntK (tCons (tVar 1) tNil)) [1]) [.un, .un] (((cs.drop 0).take (HT.sIx (cs.map D.int).length (cs.map D.int).length (some 62) - 0)).map D.int) := by
    refine dl_lc0 ((cs.drop 0).take (HT.sIx (cs.map D.int).length (cs.map D.int).length (some 62) - 0)) D.int (fun c => [(1, .int c)]) D.int (di_list ?_) (fun _ _ => dg_name) (fun _ _ => rfl) (fun c _ => ?_) ?_
    · exact dl_upto.v
    · exact dv_cb (da_cons (dv_var rfl) da_nil) cv_intK
    · have : (List.take (HT.sIx (cs.map D.int).length (cs.map D.int).length (some 62) - 0) (List.drop 0 cs)).length ≤ 62 := by
        have e : HT.sIx (cs.map D.int).length (cs.map D.int).length (some 62) ≤ 62 := by
          rw [show (62 : Int) = ((62 : Nat) : Int) from rfl, HT.sIx_nat]
          omega
        rw [List.length_take]
        omega
      omega
  simp only [tPairs, show ∀ (v : V) (σ : L2.St) (H : Hp) (Q : VK), tC v σ H Q = Q v H from fun _ _ _ _ => rfl]
  have key : ∀ Q' : VK, (∀ G' H' p' vs, Step none G (upd H p (.dK [])) G' H' → upd H p (.dK []) p' = none → G' p' = none → H' p' = some (.lst vs) → RpA G' vs (((cs.drop 0).take (HT.sIx (cs.map D.int).length (cs.map D.int).length (some 62) - 0)).map D.int) → Q' (.ref p') H') →
      tLc (iList K (tSl (rSlL K) (tVar 0) tNoPart (tPart (tC (V.int 62))))) (gName 1) tYes (tCB rIntK (tCons (tVar 1) tNil)) [1] (start N__law_feed [.ref l0]) (upd H p (.dK [])) Q' := fun Q' hq => (hL none G _ _ st Q' hq : tLc _ _ _ _ _ _ _ Q') hS2
  refine key _ fun G2 H2 p2 vs2 s2 hp2 gp2 h2 r2 => ?_
  · have np : p2 ≠ p := fun z => by
      rw [z, upd_same] at hp2
      cases hp2
    obtain ⟨g1, o1, e1, k1⟩ := s2.fr p _ gp upd_same
    have e1 : H2 p = some (.dK []) := by rw [e1, k1 nofun]
    have hvs : vs2 = (List.take (HT.sIx (cs.map D.int).length (cs.map D.int).length (some 62) - 0) (List.drop 0 cs)).map V.int := r2.ints
    have hp2H : H p2 = none := by
      rw [upd_ne np] at hp2
      exact hp2
    refine ⟨e1, srcKv p2 0 0 0, rfl, by show 4 ≤ 15; decide, ?_⟩
    refine q (upd G2 p2 (.lst vs2)) _ p ⟨s2.gg.tr (Ex.new gp2), fun b u e => ?_, fun b u e1 e2 => ?_⟩ hp ⟨by rw [upd_ne (fun z => np z.symm)]; exact g1, p2, _, 0, 0, 0, upd_same, by rw [upd_same, hvs], by decide, by decide⟩
    · by_cases z : b = p2
      · subst z
        rw [upd_same] at e
        rw [upd_ne np, h2]
        exact e
      · rw [upd_ne z] at e
        have zp : b ≠ p := fun y => by
          rw [y, g1] at e
          cases e
        rw [upd_ne zp]
        exact s2.gh b u e
    · have zp : b ≠ p := ne_of_none e2 hp
      have zp2 : b ≠ p2 := ne_of_none e2 hp2H
      obtain ⟨a1, o', a2, a3⟩ := s2.fr b u e1 (by rw [upd_ne zp]; exact e2)
      exact ⟨by rw [upd_ne zp2]; exact a1, o', by rw [upd_ne zp]; exact a2, a3⟩
end
end Wa
set_option maxHeartbeats 4000000
namespace Wa
open PySem PySem.Spec PyProof.Rows L2
local macro_rules | `(tactic| walk_at "s") => `(tactic| first
  | with_reducible exact dv_int | with_reducible exact dv_bl | with_reducible exact dv_str | with_reducible exact dv_non
  | ((with_reducible apply dv_var); first | rfl | (show _ = _; assumption))
  | with_reducible apply dv_op
  | with_reducible apply da_cons | with_reducible exact da_nil
  | with_reducible apply dv_tup2 | with_reducible apply dv_tup1 | with_reducible apply dv_tup3 | with_reducible exact dv_tup0
  | with_reducible apply dv_isN | with_reducible apply dv_notN
  | with_reducible apply dt_test | with_reducible apply dt_B | with_reducible exact dt_yes
  | with_reducible apply (dt_and ?_ fun _ => ?_) | with_reducible apply (dt_or ?_ fun _ => ?_) | with_reducible apply dt_not
  | with_reducible apply (dv_and ?_ fun _ => ?_) | with_reducible apply dv_not
  | with_reducible apply (dv_chain (g := D.non) ?_ ?_ ?_ (fun _ => ?_) (fun _ => ?_))
  | with_reducible exact ov_I0 | with_reducible exact ov_B0 | ((with_reducible apply ov_I); first | (show 0 < _; omega) | (unfold CDiv; omega) | (unfold CMul; omega) | (unfold CDivN; omega) | skip)
  | with_reducible exact ov_eqI | with_reducible exact ov_neI | with_reducible exact ov_eqB | with_reducible exact ov_eqS | with_reducible exact ov_notB
  | with_reducible exact ov_isN | with_reducible exact ov_notN
  | with_reducible apply dv_neg
  | with_reducible apply dv_isInt | with_reducible apply dv_isBool
  | with_reducible apply dv_cb
  | (with_reducible exact cv_tupleK) | (with_reducible exact cv_tupF) | (with_reducible exact cv_intK) | (with_reducible exact cv_sum) | (with_reducible exact cv_all) | (with_reducible exact cv_any) | ((with_reducible apply cv_lenK); rfl)
  | (exact ov_ixT rfl rfl) | (exact ov_ixL rfl)
  | with_reducible apply dv_din | with_reducible apply dv_dnotin
  | (show D.items _ = some _; rfl) | (show D.seq _ = some _; rfl) | ((show WF _); assumption))
local macro_rules | `(tactic| walk_at "s") => `(tactic| first | with_reducible apply cl_power_in | with_reducible apply cl_size_in | with_reducible apply cl_weight_of | with_reducible apply cl_rows_in | with_reducible apply cl_web_in | with_reducible apply cl_movers_in | with_reducible apply cl_moved_in | with_reducible apply cl_still_in | with_reducible apply cl_moved_by | with_reducible apply cl_movers_on | with_reducible apply cl_struck_by | with_reducible apply cl_subsets_of | with_reducible apply cl_cut_in | with_reducible apply cl_log_in | with_reducible apply cl_row_power | with_reducible apply cl_power_in_rows | with_reducible apply cl_alike_in | with_reducible apply cl_is_undivided | with_reducible apply cl_is_whole_number | with_reducible apply cl_is_count | with_reducible apply cl_is_small_prime | with_reducible apply cl_is_pair | with_reducible apply cl_are_rising | with_reducible apply cl_are_primes_among | with_reducible apply cl_prime_fault | with_reducible apply cl_move_fault | with_reducible apply cl_row_fault | with_reducible apply cl_table_fault | with_reducible apply cl_want2 | with_reducible apply cl_want_table1 | with_reducible apply cl_want_table2 | with_reducible apply cl_want_primes2 | with_reducible apply cl_want_both | with_reducible apply cl_are_alike | with_reducible apply cl_moved_out | with_reducible apply cl_parts_in | with_reducible apply cl_part_count | with_reducible apply cl_is_like_part | with_reducible apply cl_alike_parts_in | with_reducible apply cl_parts_alike | with_reducible apply cl_cut_to | with_reducible apply cl_other_moved | with_reducible apply cl_twisted_in | with_reducible apply cl_twisted_count | with_reducible apply cl__law_up | with_reducible apply cl__law_roots | with_reducible apply cl__law_movers | with_reducible apply cl__law_row | with_reducible apply cl__law_web | with_reducible apply cl__law_power_between | with_reducible apply cl__law_are_alike | with_reducible apply cl__law_cut | with_reducible apply cl__law_threes | with_reducible apply cl__law_many | with_reducible apply cl__law_factors | with_reducible apply cl__law_twist | with_reducible apply cl__law_worlds )
/-! repr -/
structure RO (d : D) : Prop where
  nd : d.nd = true
  ds : isDisplay d.py = true
  sh : d.py.showable = true
  hd : d.py.hasDict = false
  dp : d.py.depth ≤ 60
  ln : d.py.shown.length ≤ sizeLine
section
variable {P : Program} {w : World} {K : PySem.W.Frag} {mg : Str → Option Value} {base : Heap} {f : Addr} {fd : FuncData} {tv : Value} {sl : List Sl} {tr : TA} {E : XK}
abbrev s__law_same : Stmt := topS 71
abbrev N__law_same : List Str := ["_law_told", "_law_due"]
theorem sc__law_same : FnScope N__law_same ["_law_told", "_law_due"] (defScope s__law_same) := ⟨rfl, rfl, rfl, by decide +kernel, rfl, by decide +kernel, by decide +kernel⟩
def sp__law_same : Sp := spF (fun x : D => [x, x]) RO (fun _ => .bl true)
theorem ok__law_same  (B : Blt mg tv) (F : Fun K "_law_same" "_law_same" s__law_same f fd) : FnG P w K mg base 1 f fd ["_law_told", "_law_due"] sp__law_same := by
  have nd := sc__law_same.nd
  refine fun_okG (k := 0) F sc__law_same (fun vs H Q E h => spF_len (n:=2) (fun _ => rfl) h) (fun cdv A outer s H vs Q E hG hr h => ?_)
  refine ⟨_, (pss_one (ps_ret (pe_cmpR op_eq (pe_callB (cr_reprK K hG hr.units) (by rfl) B.repr_ (by decide +kernel) (pa_cons (pv 0) pa_nil)) (pe_callB (cr_reprK K hG hr.units) (by rfl) B.repr_ (by decide +kernel) (pa_cons (pv 1) pa_nil)) (nomark _)))), body_ok (N := N__law_same) h fun x hp => ?_⟩
  have ro : RO x := hp
  show DS _ [.d x, .d x] _
  apply ds_ret (d := .bl (decide (x.py.shown = x.py.shown)))
  · apply dv_op
    · exact dv_cb (da_cons (dv_var rfl) da_nil) (cv_repr ro.nd ro.ds ro.sh ro.hd ro.dp ro.ln)
    · exact dv_cb (da_cons (dv_var rfl) da_nil) (cv_repr ro.nd ro.ds ro.sh ro.hd ro.dp ro.ln)
    · exact ov_eqS
  · exact congrArg D.bl (decide_eq_true rfl)
theorem cl__law_same {x : D} (h : DA tr sl [x, x]) (hp : RO x) : DV (tCall sp__law_same [] E tr) sl (.bl true) := dv_call0 (enc := fun x : D => [x, x]) x h hp
local macro_rules | `(tactic| walk_at "s") => `(tactic| with_reducible apply cl__law_same)

/-! the law's checks: what is asked of the tables -/
abbrev dPp (p : Int × Int) : D := .tup [.int p.1, .int p.2]
structure ToldOk (T R : Tab) : Prop where
  gw : ∀ g ∈ threesM T R, WF g
  gl : (threesM T R).length ≤ 64
  ct : ∀ g ∈ threesM T R, apiM T g = manyL T g
  cr : ∀ g ∈ threesM T R, apiM R g = manyL R g
  on : decide ((((threesM T R).map fun g => (apiM T g, apiM R g)).filter fun p => !decide (p.1 = p.2)) = []) = aliL T R
  al : aliM T R = aliL T R
  r1 : RO (.lst (((threesM T R).map fun g => (apiM T g, apiM R g)).map dPp))
  r2 : ∀ b c : Bool, RO (.lst [.bl b, .bl c])
abbrev s__law_are_told : Stmt := topS 87
abbrev N__law_are_told : List Str := ["_law_chart_here", "_law_rival", "_law_goals", "_law_told", "_law_due", "_law_goal", "_law_is_one", "_law_pair"]
theorem sc__law_are_told : FnScope N__law_are_told ["_law_chart_here", "_law_rival"] (defScope s__law_are_told) := ⟨rfl, rfl, rfl, by decide +kernel, rfl, by decide +kernel, by decide +kernel⟩
def sp__law_are_told : Sp := spF (fun x : Tab × Tab => [dTab x.1, dTab x.2]) (fun x => CH x.1 ∧ CH x.2 ∧ ToldOk x.1 x.2) (fun _ => .bl true)
theorem ok__law_are_told (D__law_threes : Def P w K mg base "_law_threes" ["_law_chart_here", "_law_rival"] [] 2 sp__law_threes) (D_parts_alike : Def P w K mg base "parts_alike" ["table", "other"] [] 7 sp_parts_alike) (D__law_many : Def P w K mg base "_law_many" ["_law_chart_here", "_law_goal"] [] 4 sp__law_many) (D__law_same : DefG P w K mg base "_law_same" ["_law_told", "_law_due"] 1 sp__law_same) (D__law_are_alike : Def P w K mg base "_law_are_alike" ["_law_one", "_law_two"] [] 3 sp__law_are_alike) (D_are_alike : Def P w K mg base "are_alike" ["table", "other"] [] 7 sp_are_alike) (F : Fun K "_law_are_told" "_law_are_told" s__law_are_told f fd) : FnG P w K mg base 8 f fd ["_law_chart_here", "_law_rival"] sp__law_are_told := by
  have nd := sc__law_are_told.nd
  refine fun_okG (k := 7) F sc__law_are_told (fun vs H Q E h => spF_len (n:=2) (fun _ => rfl) h) (fun cdv A outer s H vs Q E hG hr h => ?_)
  refine ⟨_, (pss_cons (ps_par3 (i := 2) (j := 3) (l := 4) rfl nd rfl rfl rfl (by decide) (by decide) (by decide) rfl rfl rfl (pa_cons (pe_def D__law_threes (hr.mono (by decide)) (by rfl) (pa_cons (pv 0) (pa_cons (pv 1) pa_nil))) (pa_cons (pe_lst pa_nil) (pa_cons (pe_lst pa_nil) pa_nil))) (by rfl))
      (pss_cons (ps_for PassesOwn.never rfl (pi_listK K (pv 2)) (pg_name (i := 5) nd rfl (Or.inl rfl)) (pss_cons (ps_expr (pe_bm PySem.F.plainAttrs_list PySem.F.slot_list_append PySem.F.type_list_append mt_append (pv 3) (pa_cons (pe_tup (pa_cons (pe_def D_parts_alike (hr.mono (by decide)) (by rfl) (pa_cons (pv 0) (pa_cons (pv 5) pa_nil))) (pa_cons (pe_def D_parts_alike (hr.mono (by decide)) (by rfl) (pa_cons (pv 1) (pa_cons (pv 5) pa_nil))) pa_nil))) pa_nil)))
      (pss_one (ps_expr (pe_bm PySem.F.plainAttrs_list PySem.F.slot_list_append PySem.F.type_list_append mt_append (pv 4) (pa_cons (pe_tup (pa_cons (pe_def D__law_many (hr.mono (by decide)) (by rfl) (pa_cons (pv 0) (pa_cons (pv 5) pa_nil))) (pa_cons (pe_def D__law_many (hr.mono (by decide)) (by rfl) (pa_cons (pv 1) (pa_cons (pv 5) pa_nil))) pa_nil))) pa_nil))))))
      (pss_cons (ps_if (pt_not (pt_val (pe_defG D__law_same hG (hr.mono (by decide)) (by rfl) (pa_cons (pv 3) (pa_cons (pv 4) pa_nil))))) (pss_one (ps_ret pe_bl)) pss_nil)
      (pss_cons (ps_set (i := 6) nd rfl (Or.inl rfl) (pe_cmpR (op_eqDK K hr.units) (pe_lc (own := [("_law_pair", 7)]) rfl nd (pi_listK K (pv 3)) (blkOk_by (N := N__law_are_told) (sc := (defScope s__law_are_told)) (by decide +kernel)) (fun _ _ _ _ _ => (pg_name (i := 7) nd rfl (Or.inl rfl))) (fun _ _ _ _ _ => pts_one (pt_cmpR (op_neDK K hr.units) (pe_ix (ix_tupK K) (pv 7) pe_int (fun _ _ => rfl)) (pe_ix (ix_tupK K) (pv 7) pe_int (fun _ _ => rfl)) (nomark _))) (fun _ _ _ _ _ => (pv 7))) (pe_lst pa_nil) (nomark _)))
      (pss_cons (ps_set (i := 4) nd rfl (Or.inl rfl) (pe_def D__law_are_alike (hr.mono (by decide)) (by rfl) (pa_cons (pv 0) (pa_cons (pv 1) pa_nil))))
      (pss_one (ps_ret (pe_defG D__law_same hG (hr.mono (by decide)) (by rfl) (pa_cons (pe_lst (pa_cons (pv 6) (pa_cons (pe_def D_are_alike (hr.mono (by decide)) (by rfl) (pa_cons (pv 0) (pa_cons (pv 1) pa_nil))) pa_nil))) (pa_cons (pe_lst (pa_cons (pv 4) (pa_cons (pv 4) pa_nil))) pa_nil)))))))))), body_ok (N := N__law_are_told) h fun x hp => ?_⟩
  obtain ⟨T, R⟩ := x
  obtain ⟨hT, hR, ok⟩ := hp
  dsimp only at hT hR ok
  have hw := hT.w
  have hv := hR.w
  have gl := ok.gl
  show DS _ [.d (dTab T), .d (dTab R), .un, .un, .un, .un, .un, .un] _
  apply ds_seq
  refine ds_par3LL (d := .lst ((threesM T R).map dTab)) (xs := []) (ys := []) ?_ (dl_lst da_nil) (dl_lst da_nil) ?_
  · repeat' walk_at "s"
    exact ⟨hw, hv⟩
  apply ds_seq
  refine ds_for (threesM T R) dTab (fun g => [(5, dTab g)]) (fun i s => ∃ a b c, s = [.d (dTab T), .d (dTab R), .d (.lst ((threesM T R).map dTab)), .ml ((((threesM T R).take i).map fun g => (apiM T g, apiM R g)).map dPp), .ml ((((threesM T R).take i).map fun g => (manyL T g, manyL R g)).map dPp), a, b, c]) (di_list ?_) (fun _ _ => dg_name) ⟨_, _, _, rfl⟩ ?_ ?_
  · repeat' walk_at "s"
  · rintro i g s hi ⟨a, b, c, rfl⟩
    have gw := ok.gw g (mem_at hi)
    have il : i < 64 := Nat.lt_of_lt_of_le (List.getElem?_eq_some_iff.mp hi).1 gl
    apply ds_seq
    refine ds_app (i := 3) (xs := (((threesM T R).take i).map fun g => (apiM T g, apiM R g)).map dPp) rfl (dv_tup2 (cl_parts_alike (T := T) (R := g) (da_cons (dv_var rfl) (da_cons (dv_var rfl) da_nil)) ⟨hw, gw⟩) (cl_parts_alike (T := R) (R := g) (da_cons (dv_var rfl) (da_cons (dv_var rfl) da_nil)) ⟨hv, gw⟩)) (by rw [List.length_map, List.length_map, List.length_take]; omega) ?_
    refine ds_app (i := 4) (xs := (((threesM T R).take i).map fun g => (manyL T g, manyL R g)).map dPp) rfl (dv_tup2 (cl__law_many (T := T) (G := g) (da_cons (dv_var rfl) (da_cons (dv_var rfl) da_nil)) ⟨hw, gw⟩) (cl__law_many (T := R) (G := g) (da_cons (dv_var rfl) (da_cons (dv_var rfl) da_nil)) ⟨hv, gw⟩)) (by rw [List.length_map, List.length_map, List.length_take]; omega) ?_
    exact ⟨_, _, _, by rw [map_take_snoc hi, map_take_snoc hi, List.map_append, List.map_append] <;> rfl⟩
  · rintro s ⟨a, b, c, rfl⟩
    rw [List.take_length]
    have e1 : (threesM T R).map (fun g => (manyL T g, manyL R g)) = (threesM T R).map fun g => (apiM T g, apiM R g) := List.map_congr_left fun g hg => by rw [ok.ct g hg, ok.cr g hg]
    rw [e1]
    refine ds_frz 3 rfl ?_
    refine ds_frz 4 rfl ?_
    apply ds_seq
    apply ds_if (b := !true)
    · apply dt_not
      apply dt_test
      exact cl__law_same (x := .lst (((threesM T R).map fun g => (apiM T g, apiM R g)).map dPp)) (da_cons (dv_var rfl) (da_cons (dv_var rfl) da_nil)) ok.r1
    · intro hb
      cases hb
    intro _
    apply ds_nx
    apply ds_seq
    apply ds_set (d := .bl (aliL T R))
    · rw [← ok.on]
      apply dv_op
      · refine dl_lcE ((threesM T R).map fun g => (apiM T g, apiM R g)) dPp (fun p => [(7, dPp p)]) (fun p => !decide (p.1 = p.2)) id dPp (di_list (dv_var rfl)) (fun _ _ => dg_name) (fun _ _ => rfl) (fun p _ => ?_) (fun p _ _ => dv_var rfl) (by rw [List.length_map]; omega)
        apply dt_test
        exact dv_op (dv_op (dv_var rfl) dv_int (ov_ixT rfl rfl)) (dv_op (dv_var rfl) dv_int (ov_ixT rfl rfl)) (ov_neD eqInt (by decide) rfl (eqInt.nd _) rfl (eqInt.nd _))
      · exact dv_emp dPp
      · refine ov_cast (ov_eqLL (E := dPp) (eqInt.pair eqInt) (by decide)) ?_
        rw [List.map_id]
    apply ds_seq
    apply ds_set (d := .bl (aliL T R))
    · exact cl__law_are_alike (da_cons (dv_var rfl) (da_cons (dv_var rfl) da_nil)) ⟨hw, hv⟩
    apply ds_ret (d := .bl true)
    · refine cl__law_same (x := .lst [.bl (aliL T R), .bl (aliL T R)]) (da_cons ?_ (da_cons ?_ da_nil)) (ok.r2 _ _)
      · refine dv_lstN (da_cons (dv_var rfl) (da_cons ?_ da_nil)) (by simp)
        rw [← ok.al]
        exact cl_are_alike (da_cons (dv_var rfl) (da_cons (dv_var rfl) da_nil)) ⟨hw, hv⟩
      · exact dv_lstN (da_cons (dv_var rfl) (da_cons (dv_var rfl) da_nil)) (by simp)
    · rfl
theorem cl__law_are_told {T R : Tab} (h : DA tr sl [dTab T, dTab R]) (hp : CH T ∧ CH R ∧ ToldOk T R) : DV (tCall sp__law_are_told [] E tr) sl (.bl true) := dv_call0 (enc := fun x : Tab × Tab => [dTab x.1, dTab x.2]) (T, R) h hp
local macro_rules | `(tactic| walk_at "s") => `(tactic| with_reducible apply cl__law_are_told)

abbrev s__law_pairs_tell : Stmt := topS 88
abbrev N__law_pairs_tell : List Str := ["_law_chart_here", "_law_rival", "_law_alike_all", "_law_p", "_law_row_here", "_law_j", "_law_k", "_law_some", "_law_told"]
theorem sc__law_pairs_tell : FnScope N__law_pairs_tell ["_law_chart_here", "_law_rival"] (defScope s__law_pairs_tell) := ⟨rfl, rfl, rfl, by decide +kernel, rfl, by decide +kernel, by decide +kernel⟩
def trio (m : Int × Row) (j k : Nat) : List Int := sortU [m.1, (m.2.getD j (0, 0)).1, (m.2.getD k (0, 0)).1]
def triosJ (m : Int × Row) (j : Nat) : List (List Int) := (List.range (j + 1)).map (trio m j)
def trios (m : Int × Row) : List (List Int) := (List.range m.2.length).flatMap (triosJ m)
def pairM (T R : Tab) (s : List Int) : Bool := aliM (cut T s) (cut R s)
structure PairOk (T R : Tab) : Prop where
  on : (decide (web T = web R) && (T.2.flatMap trios).all (pairM T R)) = aliL T R
  r1 : ∀ s, RO (.lst ([cut T s, cut R s].map dTab))
  ps : T.1 = R.1
theorem trio_among {T : Tab} (hw : WF T) {m : Int × Row} (hm : m ∈ T.2) {j k : Nat} (hj : j < m.2.length) (hk : k < m.2.length) : Among (dFI T.1) (dTI (trio m j k)) T.1 (trio m j k) := by
  have wm := hw.mv m hm
  have qj := (wm.ed _ (mem_at (getD_at (d := (0, 0)) hj))).1
  have qk := (wm.ed _ (mem_at (getD_at (d := (0, 0)) hk))).1
  refine ⟨rfl, rfl, ?_, sortU_sorted _, fun x hx => ?_⟩
  · have one : ∀ (k : Int) (ys : List Int), (insU k ys).length ≤ ys.length + 1 := fun k ys => by
      induction ys with
      | nil => exact Nat.le_refl _
      | cons y ys ih2 =>
        unfold insU
        split
        · exact Nat.le_refl _
        · split
          · exact Nat.le_succ _
          · exact Nat.succ_le_succ ih2
    have a := one (m.2.getD k (0, 0)).1 []
    have b := one (m.2.getD j (0, 0)).1 (insU (m.2.getD k (0, 0)).1 [])
    have c := one m.1 (insU (m.2.getD j (0, 0)).1 (insU (m.2.getD k (0, 0)).1 []))
    have e : trio m j k = insU m.1 (insU (m.2.getD j (0, 0)).1 (insU (m.2.getD k (0, 0)).1 [])) := rfl
    rw [e]
    have z : ([] : List Int).length = 0 := rfl
    omega
  · have := mem_sortU.mp hx
    simp only [List.mem_cons, List.not_mem_nil, or_false] at this
    rcases this with rfl | rfl | rfl
    · exact wm.mi
    · exact qj
    · exact qk
def sp__law_pairs_tell : Sp := spF (fun x : Tab × Tab => [dTab x.1, dTab x.2]) (fun x => CH x.1 ∧ CH x.2 ∧ PairOk x.1 x.2) (fun _ => .bl true)
theorem ok__law_pairs_tell (D__law_web : Def P w K mg base "_law_web" ["_law_chart_here"] [] 1 sp__law_web) (D_cut_to : Def P w K mg base "cut_to" ["table", "primes"] [] 6 sp_cut_to) (D__law_same : DefG P w K mg base "_law_same" ["_law_told", "_law_due"] 1 sp__law_same) (D__law_cut : Def P w K mg base "_law_cut" ["_law_chart_here", "_law_some"] [] 1 sp__law_cut) (D_are_alike : Def P w K mg base "are_alike" ["table", "other"] [] 7 sp_are_alike) (D__law_are_alike : Def P w K mg base "_law_are_alike" ["_law_one", "_law_two"] [] 3 sp__law_are_alike) (B : Blt mg tv) (F : Fun K "_law_pairs_tell" "_law_pairs_tell" s__law_pairs_tell f fd) : FnG P w K mg base 8 f fd ["_law_chart_here", "_law_rival"] sp__law_pairs_tell := by
  have nd := sc__law_pairs_tell.nd
  refine fun_okG (k := 7) F sc__law_pairs_tell (fun vs H Q E h => spF_len (n:=2) (fun _ => rfl) h) (fun cdv A outer s H vs Q E hG hr h => ?_)
  refine ⟨_, (pss_cons (ps_set (i := 2) nd rfl (Or.inl rfl) (pe_cmpR (op_eqDK K hr.units) (pe_def D__law_web (hr.mono (by decide)) (by rfl) (pa_cons (pv 0) pa_nil)) (pe_def D__law_web (hr.mono (by decide)) (by rfl) (pa_cons (pv 1) pa_nil)) (nomark _)))
      (pss_cons (ps_for PassesOwn.never rfl (pi_tupK K (pe_ix (ix_tupK K) (pv 0) pe_int (fun _ _ => rfl))) (pg_tupK (n := 2) K rfl (pgs_cons (pg_name (i := 3) nd rfl (Or.inl rfl)) (pgs_cons (pg_name (i := 4) nd rfl (Or.inl rfl)) pgs_nil))) (pss_one (ps_for PassesOwn.never rfl (pi_range1 rfl B.range_ (pa_cons (pe_callB (call_lenK K) (by rfl) B.len_ (by decide +kernel) (pa_cons (pv 4) pa_nil)) pa_nil)) (pg_name (i := 5) nd rfl (Or.inl rfl)) (pss_one (ps_for PassesOwn.never rfl (pi_range1 rfl B.range_ (pa_cons (pe_op op_add (pv 5) pe_int) pa_nil)) (pg_name (i := 6) nd rfl (Or.inl rfl)) (pss_cons (ps_set (i := 7) nd rfl (Or.inl rfl) (pe_callTy (call_tupleK K) (by rfl) B.tuple_ (by decide +kernel) (pa_cons (pe_callB (cr_sortedSetK w rfl) (by rfl) B.sorted_ (by decide +kernel) (pa_cons (pe_callTy (cr_setLK K w rfl) (by rfl) B.set_ (by decide +kernel) (pa_cons (pe_lst (pa_cons (pv 3) (pa_cons (pe_ix (ix_tupK K) (pe_ix (ix_tupK K) (pv 4) (pv 5) (fun _ _ => rfl)) pe_int (fun _ _ => rfl)) (pa_cons (pe_ix (ix_tupK K) (pe_ix (ix_tupK K) (pv 4) (pv 6) (fun _ _ => rfl)) pe_int (fun _ _ => rfl)) pa_nil)))) pa_nil)) pa_nil)) pa_nil)))
      (pss_cons (ps_set (i := 8) nd rfl (Or.inl rfl) (pe_lst (pa_cons (pe_def D_cut_to (hr.mono (by decide)) (by rfl) (pa_cons (pv 0) (pa_cons (pv 7) pa_nil))) (pa_cons (pe_def D_cut_to (hr.mono (by decide)) (by rfl) (pa_cons (pv 1) (pa_cons (pv 7) pa_nil))) pa_nil))))
      (pss_cons (ps_if (pt_not (pt_val (pe_defG D__law_same hG (hr.mono (by decide)) (by rfl) (pa_cons (pv 8) (pa_cons (pe_lst (pa_cons (pe_def D__law_cut (hr.mono (by decide)) (by rfl) (pa_cons (pv 0) (pa_cons (pv 7) pa_nil))) (pa_cons (pe_def D__law_cut (hr.mono (by decide)) (by rfl) (pa_cons (pv 1) (pa_cons (pv 7) pa_nil))) pa_nil))) pa_nil))))) (pss_one (ps_ret pe_bl)) pss_nil)
      (pss_one (ps_if (pt_cmpR op_notBl (pe_def D_are_alike (hr.mono (by decide)) (by rfl) (pa_cons (pe_ix (ix_listK K) (pv 8) pe_int (fun _ _ => rfl)) (pa_cons (pe_ix (ix_listK K) (pv 8) pe_int (fun _ _ => rfl)) pa_nil))) pe_bl (nomark _)) (pss_one (ps_set (i := 2) nd rfl (Or.inl rfl) pe_bl)) pss_nil))))))))))
      (pss_one (ps_ret (pe_cmpR op_eq (pv 2) (pe_def D__law_are_alike (hr.mono (by decide)) (by rfl) (pa_cons (pv 0) (pa_cons (pv 1) pa_nil))) (nomark _)))))), body_ok (N := N__law_pairs_tell) h fun x hp => ?_⟩
  obtain ⟨T, R⟩ := x
  obtain ⟨hT, hR, ok⟩ := hp
  dsimp only at hT hR ok
  have hw := hT.w
  have hv := hR.w
  show DS _ [.d (dTab T), .d (dTab R), .un, .un, .un, .un, .un, .un, .un] _
  apply ds_seq
  apply ds_set (d := .bl (decide (web T = web R) && ((T.2.take 0).flatMap trios).all (pairM T R)))
  · refine DV.cast (dv_op (cl__law_web (da_cons (dv_var rfl) da_nil) hw) (cl__law_web (T := R) (da_cons (dv_var rfl) da_nil) hv) (ov_eqT eqPr (by decide) rfl rfl)) ?_
    show D.bl _ = D.bl (_ && true)
    rw [Bool.and_true]
  apply ds_seq
  refine ds_for T.2 dMv (fun m => [(3, .int m.1), (4, dRow m.2)]) (fun i s => ∃ a b c e g h, s = [.d (dTab T), .d (dTab R), .d (.bl (decide (web T = web R) && ((T.2.take i).flatMap trios).all (pairM T R))), a, b, c, e, g, h]) (di_tup (d := .tuf (T.2.map dMv)) ?_ rfl) (fun _ _ => dg_tup rfl (dgs_cons (dgs_cons dgs_nil))) ⟨_, _, _, _, _, _, rfl⟩ ?_ ?_
  · repeat' walk_at "s"
  · rintro i m s hi ⟨a, b, c, e, g, h, rfl⟩
    have hm := mem_at hi
    have wm := hw.mv m hm
    have ln := wm.ln
    refine ds_for (List.range (((m.2.map dPr).length : Nat) : Int).toNat) (fun i => .int (0 + (i : Int))) (fun i => [(5, .int (0 + (i : Int)))]) (fun j s => ∃ c e g h, s = [.d (dTab T), .d (dTab R), .d (.bl (decide (web T = web R) && ((T.2.take i).flatMap trios ++ (List.range j).flatMap (triosJ m)).all (pairM T R))), .d (.int m.1), .d (dRow m.2), c, e, g, h]) (di_rng1 ?_ (by rw [List.length_map]; omega)) (fun _ _ => dg_name) ⟨c, e, g, h, by rw [List.range_zero, List.flatMap_nil, List.append_nil] <;> rfl⟩ ?_ ?_
    · repeat' walk_at "s"
    · rintro j jj s hj ⟨c, e, g, h, rfl⟩
      obtain ⟨hj1, ej⟩ := List.getElem?_eq_some_iff.mp hj
      rw [List.getElem_range] at ej
      subst ej
      rw [List.length_range, List.length_map] at hj1
      have hj2 : j < m.2.length := by omega
      refine ds_for (List.range ((0 + (j : Int)) + 1).toNat) (fun i => .int (0 + (i : Int))) (fun i => [(6, .int (0 + (i : Int)))]) (fun k s => ∃ e g h, s = [.d (dTab T), .d (dTab R), .d (.bl (decide (web T = web R) && ((T.2.take i).flatMap trios ++ (List.range j).flatMap (triosJ m) ++ (List.range k).map (trio m j)).all (pairM T R))), .d (.int m.1), .d (dRow m.2), .d (.int (0 + (j : Int))), e, g, h]) (di_rng1 ?_ (by omega)) (fun _ _ => dg_name) ⟨e, g, h, by rw [List.range_zero, List.map_nil, List.append_nil] <;> rfl⟩ ?_ ?_
      · repeat' walk_at "s"
      · rintro k kk s hk ⟨e, g, h, rfl⟩
        obtain ⟨hk1, ek⟩ := List.getElem?_eq_some_iff.mp hk
        rw [List.getElem_range] at ek
        subst ek
        rw [List.length_range] at hk1
        have hk2 : k < m.2.length := by omega
        have am := trio_among hw hm hj2 hk2
        have am2 : Among (dFI R.1) (dTI (trio m j k)) R.1 (trio m j k) := by
          rw [← ok.ps]
          exact am
        have zj : (0 : Int) + (j : Int) = ((j : Nat) : Int) := by omega
        have zk : (0 : Int) + (k : Int) = ((k : Nat) : Int) := by omega
        apply ds_seq
        apply ds_set (d := dTI (trio m j k))
        · apply dv_cb
          · apply da_cons
            · refine DL.v (dl_sortset (ns := [m.1, (m.2.getD j (0, 0)).1, (m.2.getD k (0, 0)).1]) ?_ (by simp))
              apply da_cons
              · refine dv_lstN (ds := [.int m.1, .int (m.2.getD j (0, 0)).1, .int (m.2.getD k (0, 0)).1]) (da_cons (dv_var rfl) (da_cons ?_ (da_cons ?_ da_nil))) (by simp)
                · exact dv_op (dv_op (dv_var (d := dRow m.2) rfl) (dv_var (d := .int (0 + (j : Int))) rfl) (ov_ixT (f := dPr (m.2.getD j (0, 0))) rfl (by rw [zj]; exact atI_map (getD_at hj2)))) dv_int (ov_ixT rfl rfl)
                · exact dv_op (dv_op (dv_var (d := dRow m.2) rfl) (dv_var (d := .int (0 + (k : Int))) rfl) (ov_ixT (f := dPr (m.2.getD k (0, 0))) rfl (by rw [zk]; exact atI_map (getD_at hk2)))) dv_int (ov_ixT rfl rfl)
              · exact da_nil
            · exact da_nil
          · exact cv_tupleK
        apply ds_seq
        apply ds_set (d := .lst ([cut T (trio m j k), cut R (trio m j k)].map dTab))
        · exact dv_lstN (ds := [dTab (cut T (trio m j k)), dTab (cut R (trio m j k))]) (da_cons (cl_cut_to (d := dTI (trio m j k)) (da_cons (dv_var rfl) (da_cons (dv_var rfl) da_nil)) hw am) (da_cons (cl_cut_to (T := R) (d := dTI (trio m j k)) (da_cons (dv_var rfl) (da_cons (dv_var rfl) da_nil)) hv am2) da_nil)) (by simp)
        apply ds_seq
        apply ds_if (b := !true)
        · apply dt_not
          apply dt_test
          refine cl__law_same (x := .lst ([cut T (trio m j k), cut R (trio m j k)].map dTab)) (da_cons (dv_var rfl) (da_cons ?_ da_nil)) (ok.r1 _)
          exact dv_lstN (ds := [dTab (cut T (trio m j k)), dTab (cut R (trio m j k))]) (da_cons (cl__law_cut (d := dTI (trio m j k)) (da_cons (dv_var rfl) (da_cons (dv_var rfl) da_nil)) hw rfl) (da_cons (cl__law_cut (T := R) (d := dTI (trio m j k)) (da_cons (dv_var rfl) (da_cons (dv_var rfl) da_nil)) hv rfl) da_nil)) (by simp)
        · intro hb
          cases hb
        intro _
        apply ds_nx
        have rs : ∀ X : List (List Int), (decide (web T = web R) && (X ++ [trio m j k]).all (pairM T R)) = ((decide (web T = web R) && X.all (pairM T R)) && pairM T R (trio m j k)) := fun X => by
          rw [List.all_append, List.all_cons, List.all_nil, Bool.and_true, Bool.and_assoc]
        have sn : (List.range (k + 1)).map (trio m j) = (List.range k).map (trio m j) ++ [trio m j k] := by rw [List.range_succ, List.map_append] <;> rfl
        apply ds_if (b := !decide (pairM T R (trio m j k) = true))
        · apply dt_test
          refine dv_op (cl_are_alike (T := cut T (trio m j k)) (R := cut R (trio m j k)) (da_cons (dv_op (dv_var (d := .lst ([cut T (trio m j k), cut R (trio m j k)].map dTab)) rfl) dv_int (ov_ixL rfl)) (da_cons (dv_op (dv_var (d := .lst ([cut T (trio m j k), cut R (trio m j k)].map dTab)) rfl) dv_int (ov_ixL rfl)) da_nil)) ⟨wf_cut hw _, wf_cut hv _⟩) dv_bl ov_notB
        · intro hb
          have hf : pairM T R (trio m j k) = false := by simpa using hb
          apply ds_set (d := .bl false)
          · exact dv_bl
          · exact ⟨_, _, _, by rw [sn, ← List.append_assoc, rs, hf, Bool.and_false] <;> rfl⟩
        · intro hb
          have hf : pairM T R (trio m j k) = true := by simpa using hb
          apply ds_nx
          exact ⟨_, _, _, by rw [sn, ← List.append_assoc, rs, hf, Bool.and_true] <;> rfl⟩
      · rintro s ⟨e, g, h, rfl⟩
        rw [List.length_range, show ((0 + (j : Int)) + 1).toNat = j + 1 by omega]
        have e2 : (List.range (j + 1)).flatMap (triosJ m) = (List.range j).flatMap (triosJ m) ++ (List.range (j + 1)).map (trio m j) := by
          rw [List.range_succ, List.flatMap_append, List.flatMap_cons, List.flatMap_nil, List.append_nil]
          rw [← List.range_succ]
          rfl
        exact ⟨_, _, _, _, by rw [e2, ← List.append_assoc] <;> rfl⟩
    · rintro s ⟨c, e, g, h, rfl⟩
      rw [List.length_range, show (((m.2.map dPr).length : Nat) : Int).toNat = m.2.length by rw [List.length_map]; rfl]
      exact ⟨_, _, _, _, _, _, by rw [take_snoc hi, List.flatMap_append, List.flatMap_cons, List.flatMap_nil, List.append_nil] <;> rfl⟩
  · rintro s ⟨a, b, c, e, g, h, rfl⟩
    rw [List.take_length, ok.on]
    apply ds_ret
    · exact dv_op (dv_var rfl) (cl__law_are_alike (da_cons (dv_var rfl) (da_cons (dv_var rfl) da_nil)) ⟨hw, hv⟩) ov_eqB
    · exact congrArg D.bl (decide_eq_true rfl)
theorem cl__law_pairs_tell {T R : Tab} (h : DA tr sl [dTab T, dTab R]) (hp : CH T ∧ CH R ∧ PairOk T R) : DV (tCall sp__law_pairs_tell [] E tr) sl (.bl true) := dv_call0 (enc := fun x : Tab × Tab => [dTab x.1, dTab x.2]) (T, R) h hp
local macro_rules | `(tactic| walk_at "s") => `(tactic| with_reducible apply cl__law_pairs_tell)
end
end Wa
set_option maxHeartbeats 4000000
namespace Wa
open PySem PySem.Spec PyProof.Rows L2
local macro_rules | `(tactic| walk_at "s") => `(tactic| first
  | with_reducible exact dv_int | with_reducible exact dv_bl | with_reducible exact dv_str | with_reducible exact dv_non
  | ((with_reducible apply dv_var); first | rfl | (show _ = _; assumption))
  | with_reducible apply dv_op
  | with_reducible apply da_cons | with_reducible exact da_nil
  | with_reducible apply dv_tup2 | with_reducible apply dv_tup1 | with_reducible apply dv_tup3 | with_reducible exact dv_tup0
  | with_reducible apply dv_isN | with_reducible apply dv_notN
  | with_reducible apply dt_test | with_reducible apply dt_B | with_reducible exact dt_yes
  | with_reducible apply (dt_and ?_ fun _ => ?_) | with_reducible apply (dt_or ?_ fun _ => ?_) | with_reducible apply dt_not
  | with_reducible apply (dv_and ?_ fun _ => ?_) | with_reducible apply dv_not
  | with_reducible apply (dv_chain (g := D.non) ?_ ?_ ?_ (fun _ => ?_) (fun _ => ?_))
  | with_reducible exact ov_I0 | with_reducible exact ov_B0 | ((with_reducible apply ov_I); first | (show 0 < _; omega) | (unfold CDiv; omega) | (unfold CMul; omega) | (unfold CDivN; omega) | skip)
  | with_reducible exact ov_eqI | with_reducible exact ov_neI | with_reducible exact ov_eqB | with_reducible exact ov_eqS | with_reducible exact ov_notB
  | with_reducible exact ov_isN | with_reducible exact ov_notN
  | with_reducible apply dv_neg
  | with_reducible apply dv_isInt | with_reducible apply dv_isBool
  | with_reducible apply dv_cb
  | (with_reducible exact cv_tupleK) | (with_reducible exact cv_tupF) | (with_reducible exact cv_intK) | (with_reducible exact cv_sum) | (with_reducible exact cv_all) | (with_reducible exact cv_any) | ((with_reducible apply cv_lenK); rfl)
  | (exact ov_ixT rfl rfl) | (exact ov_ixL rfl)
  | with_reducible apply dv_din | with_reducible apply dv_dnotin
  | (show D.items _ = some _; rfl) | (show D.seq _ = some _; rfl) | ((show WF _); assumption))
local macro_rules | `(tactic| walk_at "s") => `(tactic| first | with_reducible apply cl_power_in | with_reducible apply cl_size_in | with_reducible apply cl_weight_of | with_reducible apply cl_rows_in | with_reducible apply cl_web_in | with_reducible apply cl_movers_in | with_reducible apply cl_moved_in | with_reducible apply cl_still_in | with_reducible apply cl_moved_by | with_reducible apply cl_movers_on | with_reducible apply cl_struck_by | with_reducible apply cl_subsets_of | with_reducible apply cl_cut_in | with_reducible apply cl_log_in | with_reducible apply cl_row_power | with_reducible apply cl_power_in_rows | with_reducible apply cl_alike_in | with_reducible apply cl_is_undivided | with_reducible apply cl_is_whole_number | with_reducible apply cl_is_count | with_reducible apply cl_is_small_prime | with_reducible apply cl_is_pair | with_reducible apply cl_are_rising | with_reducible apply cl_are_primes_among | with_reducible apply cl_prime_fault | with_reducible apply cl_move_fault | with_reducible apply cl_row_fault | with_reducible apply cl_table_fault | with_reducible apply cl_want2 | with_reducible apply cl_want_table1 | with_reducible apply cl_want_table2 | with_reducible apply cl_want_primes2 | with_reducible apply cl_want_both | with_reducible apply cl_are_alike | with_reducible apply cl_moved_out | with_reducible apply cl_parts_in | with_reducible apply cl_part_count | with_reducible apply cl_is_like_part | with_reducible apply cl_alike_parts_in | with_reducible apply cl_parts_alike | with_reducible apply cl_cut_to | with_reducible apply cl_other_moved | with_reducible apply cl_twisted_in | with_reducible apply cl_twisted_count | with_reducible apply cl__law_up | with_reducible apply cl__law_roots | with_reducible apply cl__law_movers | with_reducible apply cl__law_row | with_reducible apply cl__law_web | with_reducible apply cl__law_power_between | with_reducible apply cl__law_are_alike | with_reducible apply cl__law_cut | with_reducible apply cl__law_threes | with_reducible apply cl__law_many | with_reducible apply cl__law_factors | with_reducible apply cl__law_twist | with_reducible apply cl__law_worlds | with_reducible apply cl__law_same | with_reducible apply cl__law_are_told | with_reducible apply cl__law_pairs_tell )
section
variable {X : Cx} {CX : CXT} {k : Nat} {f C : Addr} {fd : FuncData} {ps ks : List Str} {sp : Sp} {E : XK} {x m : Str} {p pos apos kpos : Pos} {kws : List Keyword} {tk : TA} {g : List Value → List Value → List Value} {gV : List V → List V → List V}
/-- f(k = v, ..) -/
theorem pe_callKW0 (F : FnOk X.prog X.w X.K X.mg X.base CX k f fd ps sp) (hr : Room k X.A) (hg : Gl X x) (hm : X.mg x = some (.ref f)) (hk : PySem.W.keepIn X.K (.ref f) = true) (hb : KBinds X.K fd ps ks g gV) (hx : Passes CX X E)
    (hkw : PK X kws tk) (hall : (backToKw pos (keywordEach kws X.env)).all (·.1.isSome) = true := by rfl) (hks : (backToKw pos (keywordEach kws X.env)).filterMap (·.1) = ks := by rfl)
    (hdb : (x == ("__debug__" : Str)) = false := by decide)
    (hpl : ((backTo pos (starEach [] X.env)).any (·.1) || (backToKw pos (keywordEach kws X.env)).any (·.1.isNone)) = false := by rfl) :
    PE X (.Call (.Name x p) [] kws pos) (tCallK sp gV E tNil tk) := by
  refine ⟨fun pins s σ H Q I h => ?_⟩
  refine wpAny_Call_Name_kw (ld_glob I hg hm ?_ hdb)
  have h2 : tk σ H fun zs H2 => sp (gV [] zs) H2 Q E := h
  refine PySem.W.callWith_KW0 (h₀ := X.base) I.ok.mod.kin hk hall (thn (hkw.run pos pins s σ H _ I h2) fun ws s2 ⟨zs, H2, I2, rz, q2⟩ => ⟨I2.kIn, ?_⟩) hpl
  rw [hks]
  exact run_fnk F hr hb hx I2 .nil rz q2
end
def swapK {α : Type} (us ws : List α) : List α := match us, ws with
  | [], [a, b] => [b, a]
  | _, _ => []
def DefK (P : Program) (w : World) (K : PySem.W.Frag) (mg : Str → Option Value) (base : Heap) (x : Str) (ps ks : List Str) (k : Nat) (sp : Sp) : Prop :=
  ∃ f fd, FnOk P w K mg base CX0 k f fd ps sp ∧ mg x = some (.ref f) ∧ PySem.W.keepIn K (.ref f) = true ∧ KBinds K fd ps ks swapK swapK
theorem pe_defK {X : Cx} {x : Str} {ps ks : List Str} {k : Nat} {sp : Sp} {p pos : Pos} {kws : List Keyword} {tk : TA} (D : DefK X.prog X.w X.K X.mg X.base x ps ks k sp) (hr : Room k X.A) (hg : Gl X x) (hkw : PK X kws tk) (hall : (backToKw pos (keywordEach kws X.env)).all (·.1.isSome) = true := by rfl) (hks : (backToKw pos (keywordEach kws X.env)).filterMap (·.1) = ks := by rfl)
    (hdb : (x == ("__debug__" : Str)) = false := by decide)
    (hpl : ((backTo pos (starEach [] X.env)).any (·.1) || (backToKw pos (keywordEach kws X.env)).any (·.1.isNone)) = false := by rfl) : PE X (.Call (.Name x p) [] kws pos) (tCallK sp swapK E0 tNil tk) := by
  obtain ⟨f, fd, F, hm, hk, hb⟩ := D
  exact pe_callKW0 F hr hg hm hk hb pass0 hkw hall hks hdb hpl
section
variable {P : Program} {w : World} {K : PySem.W.Frag} {mg : Str → Option Value} {base : Heap} {f : Addr} {fd : FuncData} {tv : Value} {sl : List Sl} {tr tk : TA} {E : XK}
theorem dv_part_countK {T : Tab} {d : D} {s : List Int} (h : DA tk sl [d, dTab T]) (hw : WF T) (hs : Among (dFI T.1) d T.1 s) : DV (tCallK sp_part_count swapK E tNil tk) sl (.int (prodI (outM T s))) := fun S G H σ st Q q => h S G H σ st _ fun G1 H1 vs s1 r1 => ⟨G1, (T, d, s), s1.gh, by
  cases r1 with
  | cons a b =>
    cases b with
    | cons c e =>
      cases e
      exact .cons c (.cons a .nil), ⟨hw, hs⟩, fun G2 H2 v s2 r2 => q G2 H2 v (s1.tr s2) r2⟩

abbrev s__law_counts_go : Stmt := topS 89
abbrev N__law_counts_go : List Str := ["_law_src", "_law_chart_here", "_law_rival", "_law_some", "_law_p", "_law_gone", "_law_each", "_law_many_here", "_law_q", "_law_nums", "_law_lap", "_law_num", "_law_due"]
theorem sc__law_counts_go : FnScope N__law_counts_go ["_law_src", "_law_chart_here", "_law_rival"] (defScope s__law_counts_go) := ⟨rfl, rfl, rfl, by decide +kernel, rfl, by decide +kernel, by decide +kernel⟩
structure CountOk (T R : Tab) : Prop where
  ps : T.1 = R.1
  pt : ∀ s, prodI (outM T s) = prodI (sortU (outQ T s))
  pr : ∀ s, prodI (outM R s) = prodI (sortU (outQ R s))
  r1 : ∀ s, s.Sublist T.1 → RO (.lst [.int (prodI (sortU (outQ T s))), .int (prodI (sortU (outQ R s)))])
  tt : ∀ r, 0 ≤ r → r < 10000 → twistM T r = twL T r
  tr : ∀ r, 0 ≤ r → r < 10000 → twistM R r = twL R r
  al : aliL T R = true → ∀ r, 0 ≤ r → r < 10000 → twL T r = twL R r
  r2 : ∀ r, 0 ≤ r → r < 10000 → RO (.lst [.int (twL T r), .int (twL R r)])
def sp__law_counts_go : Sp := spS (fun x : Tab × Tab => [dTab x.1, dTab x.2]) (fun x => CH x.1 ∧ CH x.2 ∧ CountOk x.1 x.2) (fun _ d => d = .bl true)
theorem ok__law_counts_go (D__law_draw : Def P w K mg base "_law_draw" ["_law_src", "_law_much"] [] 1 sp__law_draw) (D__law_web : Def P w K mg base "_law_web" ["_law_chart_here"] [] 1 sp__law_web) (D__law_same : DefG P w K mg base "_law_same" ["_law_told", "_law_due"] 1 sp__law_same) (D_part_count : Def P w K mg base "part_count" ["table", "primes"] [] 6 sp_part_count) (D_part_countK : DefK P w K mg base "part_count" ["table", "primes"] ["primes", "table"] 6 sp_part_count) (D__law_twist : Def P w K mg base "_law_twist" ["_law_chart_here", "_law_r"] [] 3 sp__law_twist) (D_twisted_count : Def P w K mg base "twisted_count" ["table", "r"] [] 6 sp_twisted_count) (D__law_are_alike : Def P w K mg base "_law_are_alike" ["_law_one", "_law_two"] [] 3 sp__law_are_alike) (B : Blt mg tv) (F : Fun K "_law_counts_go" "_law_counts_go" s__law_counts_go f fd) : FnG P w K mg base 7 f fd ["_law_src", "_law_chart_here", "_law_rival"] sp__law_counts_go := by
  have nd := sc__law_counts_go.nd
  refine fun_okG (k := 6) F sc__law_counts_go (fun vs H Q E h => spS_len (n:=2) (fun _ => rfl) h) (fun cdv A outer s H vs Q E hG hr h => ?_)
  refine ⟨_, (pss_cons (ps_set (i := 3) nd rfl (Or.inr rfl) (pe_callTy (call_tupleK K) (by rfl) B.tuple_ (by decide +kernel) (pa_cons (pe_lc (own := [("_law_p", 4)]) rfl nd (pi_tupK K (pe_ix (ix_tupK K) (pv 1) pe_int (fun _ _ => rfl))) (blkOk_by (N := N__law_counts_go) (sc := (defScope s__law_counts_go)) (by decide +kernel)) (fun _ _ _ _ _ => (pg_name (i := 4) nd rfl (Or.inl rfl))) (fun _ _ _ _ _ => pts_one (pt_cmpR op_eq (pe_def D__law_draw (hr.mono (by decide)) (by rfl) (pa_cons (pv 0) (pa_cons pe_int pa_nil))) pe_int (nomark _))) (fun _ _ _ _ _ => (pv 4))) pa_nil)))
      (pss_cons (ps_set (i := 5) nd rfl (Or.inl rfl) (pe_lst pa_nil))
      (pss_cons (ps_for PassesOwn.never rfl (pi_tupK K (pe_tup (pa_cons (pv 1) (pa_cons (pv 2) pa_nil)))) (pg_name (i := 6) nd rfl (Or.inl rfl)) (pss_cons (ps_set (i := 7) nd rfl (Or.inl rfl) pe_int)
      (pss_cons (ps_for PassesOwn.never rfl (pi_listK K (pe_callB (cr_sortedSetK w rfl) (by rfl) B.sorted_ (by decide +kernel) (pa_cons (pe_callTy (cr_setLK K w rfl) (by rfl) B.set_ (by decide +kernel) (pa_cons (pe_lc (own := [("_law_p", 4), ("_law_q", 8)]) rfl nd (pi_tupK K (pe_def D__law_web (hr.mono (by decide)) (by rfl) (pa_cons (pv 6) pa_nil))) (blkOk_by (N := N__law_counts_go) (sc := (defScope s__law_counts_go)) (by decide +kernel)) (fun _ _ _ _ _ => (pg_tupK (n := 2) K rfl (pgs_cons (pg_name (i := 4) nd rfl (Or.inl rfl)) (pgs_cons (pg_name (i := 8) nd rfl (Or.inl rfl)) pgs_nil)))) (fun _ _ _ _ _ => pts_one (PW.pt (pw_and (pt_cmpR (op_inK K) (pv 4) (pv 3) (rfl)) (pw_and1 (pt_cmpR (op_notInK K) (pv 8) (pv 3) (rfl)))))) (fun _ _ _ _ _ => (pv 8))) pa_nil)) pa_nil))) (pg_name (i := 8) nd rfl (Or.inl rfl)) (pss_one (ps_set (i := 7) nd rfl (Or.inl rfl) (pe_op op_mul (pv 7) (pv 8)))))
      (pss_one (ps_expr (pe_bm PySem.F.plainAttrs_list PySem.F.slot_list_append PySem.F.type_list_append mt_append (pv 5) (pa_cons (pv 7) pa_nil)))))))
      (pss_cons (ps_if (pt_not (pt_val (pe_defG D__law_same hG (hr.mono (by decide)) (by rfl) (pa_cons (pe_lst (pa_cons (pe_def D_part_count (hr.mono (by decide)) (by rfl) (pa_cons (pv 1) (pa_cons (pv 3) pa_nil))) (pa_cons (pe_defK D_part_countK (hr.mono (by decide)) (by rfl) (pk_cons (pv 3) (pk_cons (pv 2) pk_nil))) pa_nil))) (pa_cons (pv 5) pa_nil))))) (pss_one (ps_ret pe_bl)) pss_nil)
      (pss_cons (ps_set (i := 9) nd rfl (Or.inl rfl) (pe_op op_cat (pe_lst (pa_cons pe_int (pa_cons pe_int pa_nil))) (pe_lc (own := [("_law_lap", 10)]) rfl nd (pi_range1 rfl B.range_ (pa_cons pe_int pa_nil)) (blkOk_by (N := N__law_counts_go) (sc := (defScope s__law_counts_go)) (by decide +kernel)) (fun _ _ _ _ _ => (pg_name (i := 10) nd rfl (Or.inl rfl))) (fun _ _ _ _ _ => pts_nil) (fun _ _ _ _ _ => (pe_def D__law_draw (hr.mono (by decide)) (by rfl) (pa_cons (pv 0) (pa_cons pe_int pa_nil)))))))
      (pss_cons (ps_for PassesOwn.never rfl (pi_listK K (pv 9)) (pg_name (i := 11) nd rfl (Or.inl rfl)) (pss_cons (ps_set (i := 12) nd rfl (Or.inl rfl) (pe_lst (pa_cons (pe_def D__law_twist (hr.mono (by decide)) (by rfl) (pa_cons (pv 1) (pa_cons (pv 11) pa_nil))) (pa_cons (pe_def D__law_twist (hr.mono (by decide)) (by rfl) (pa_cons (pv 2) (pa_cons (pv 11) pa_nil))) pa_nil))))
      (pss_cons (ps_if (pt_not (pt_val (pe_defG D__law_same hG (hr.mono (by decide)) (by rfl) (pa_cons (pe_lst (pa_cons (pe_def D_twisted_count (hr.mono (by decide)) (by rfl) (pa_cons (pv 1) (pa_cons (pv 11) pa_nil))) (pa_cons (pe_def D_twisted_count (hr.mono (by decide)) (by rfl) (pa_cons (pv 2) (pa_cons (pv 11) pa_nil))) pa_nil))) (pa_cons (pv 12) pa_nil))))) (pss_one (ps_ret pe_bl)) pss_nil)
      (pss_one (ps_if (PW.pt (pw_and (pt_val (pe_def D__law_are_alike (hr.mono (by decide)) (by rfl) (pa_cons (pv 1) (pa_cons (pv 2) pa_nil)))) (pw_and1 (pt_cmpR op_ne (pe_ix (ix_listK K) (pv 12) pe_int (fun _ _ => rfl)) (pe_ix (ix_listK K) (pv 12) pe_int (fun _ _ => rfl)) (nomark _))))) (pss_one (ps_ret pe_bl)) pss_nil)))))
      (pss_one (ps_ret pe_bl)))))))), body_okS (N := N__law_counts_go) h fun x hp => ?_⟩
  obtain ⟨T, R⟩ := x
  obtain ⟨hT, hR, ok⟩ := hp
  dsimp only at hT hR ok
  have hw := hT.w
  have hv := hR.w
  have pl := hw.pl
  show DS _ [.src, .d (dTab T), .d (dTab R), .un, .un, .un, .un, .un, .un, .un, .un, .un, .un] _
  apply ds_seq
  refine ds_setE (Pd := fun d => ∃ s : List Int, s.Sublist T.1 ∧ d = dTI s) (de_cb (P := fun d => ∃ acc, d = .lst acc ∧ ∃ s : List Int, s.Sublist T.1 ∧ acc = s.map D.int) ?_ ?_) ?_
  · refine de_lc T.1 D.int (fun p => [(4, .int p)]) (fun i acc => ∃ s : List Int, s.Sublist (T.1.take i) ∧ acc = s.map D.int) (fun _ _ _ => True) (di_tup (d := dFI T.1) ?_ rfl) (fun _ _ => dg_name) (fun _ _ => rfl) ⟨[], List.Sublist.refl _, rfl⟩ ?_ ?_ ?_ (by omega) ?_
    · repeat' walk_at "s"
    · rintro i x acc hi hR
      refine dte_test (de_op1 (Q := fun d => ∃ b, d = .bl b) (de__law_draw (m := 2) rfl (da_cons dv_int da_nil) ⟨by decide, by decide⟩) dv_int fun y hy => ?_) fun d hd => ?_
      · obtain ⟨n, _, rfl⟩ := hy
        exact ⟨_, ov_eqI, _, rfl⟩
      · obtain ⟨b, rfl⟩ := hd
        exact ⟨b, rfl, trivial⟩
    · rintro i acc _ ⟨s, h1, h2⟩
      exact ⟨s, h1.trans (List.take_sublist_take_left (Nat.le_succ i)), h2⟩
    · rintro i x acc hi ⟨s, h1, h2⟩ _
      refine DV.e (d := .int x) (dv_var rfl) ⟨s ++ [x], ?_, by rw [h2, List.map_append] <;> rfl⟩
      rw [take_snoc hi]
      exact h1.append (List.Sublist.refl _)
    · rintro acc ⟨s, h1, h2⟩
      rw [List.take_length] at h1
      exact ⟨s, h1, h2⟩
  · rintro y ⟨acc, rfl, s, h1, rfl⟩
    exact ⟨dTI s, cv_tupleK, s, h1, rfl⟩
  rintro d ⟨s, hs, rfl⟩
  have amT : Among (dFI T.1) (dTI s) T.1 s := ⟨rfl, rfl, Nat.le_trans hs.length_le pl, hw.ps.sublist hs, fun m hm => hs.subset hm⟩
  have amR : Among (dFI R.1) (dTI s) R.1 s := by
    rw [← ok.ps]
    exact amT
  apply ds_seq
  apply ds_asgL (xs := (([T, R].take 0).map fun U => prodI (sortU (outQ U s))).map D.int)
  · exact (show DL _ _ [] from dl_lst da_nil)
  apply ds_seq
  refine ds_for [T, R] dTab (fun U => [(6, dTab U)]) (fun i t => ∃ a b c e g h q, t = [.src, .d (dTab T), .d (dTab R), .d (dTI s), a, .ml ((([T, R].take i).map fun U => prodI (sortU (outQ U s))).map D.int), b, c, e, g, h, q, .un]) (di_tup (d := .tup [dTab T, dTab R]) ?_ rfl) (fun _ _ => dg_name) ⟨_, _, _, _, _, _, _, rfl⟩ ?_ ?_
  · repeat' walk_at "s"
  · rintro i U t hi ⟨a, b, c, e, g, h, q, rfl⟩
    have hU : WF U := by
      rcases List.mem_cons.mp (mem_at hi) with z | z
      · rw [z]
        exact hw
      · rw [List.mem_singleton.mp z]
        exact hv
    have i2 : i < 2 := (List.getElem?_eq_some_iff.mp hi).1
    have wl := web_len hU
    apply ds_seq
    apply ds_set
    · exact dv_int
    apply ds_seq
    refine ds_for (sortU (outQ U s)) D.int (fun q => [(8, .int q)]) (fun j t => ∃ a e, t = [.src, .d (dTab T), .d (dTab R), .d (dTI s), a, .ml ((([T, R].take i).map fun U => prodI (sortU (outQ U s))).map D.int), .d (dTab U), .d (.int (prodI ((sortU (outQ U s)).take j))), e, g, h, q, .un]) (di_list (DL.v (dl_sortset (ns := outQ U s) ?_ (Nat.le_trans (outQ_len hU _) (by decide))))) (fun _ _ => dg_name) ⟨_, _, rfl⟩ ?_ ?_
    · apply da_cons
      · refine dl_lcE (web U) dPr (fun e => [(4, .int e.1), (8, .int e.2)]) (fun e => decide (e.1 ∈ s) && !decide (e.2 ∈ s)) (·.2) D.int (di_tup (d := dWeb (web U)) (cl__law_web (da_cons (dv_var rfl) da_nil) hU) rfl) (fun _ _ => dg_tup rfl (dgs_cons (dgs_cons dgs_nil))) (fun _ _ => rfl) (fun e _ => ?_) (fun e _ _ => dv_var rfl) (by omega)
        exact dt_and (dt_test (dv_op (dv_var rfl) (dv_var (d := dTI s) rfl) (ov_in rfl))) fun _ => dt_test (dv_op (dv_var rfl) (dv_var (d := dTI s) rfl) (ov_notIn rfl))
      · exact da_nil
    · rintro j q' t hj ⟨a, e, rfl⟩
      have hq := outQ_ps hU q' (mem_sortU.mp (mem_at hj))
      apply ds_set
      · exact dv_op (dv_var rfl) (dv_var rfl) (ov_I (.inr ⟨by omega, by omega⟩))
      · exact ⟨_, _, by rw [take_snoc hj, prodI_snoc] <;> rfl⟩
    · rintro t ⟨a, e, rfl⟩
      rw [List.take_length]
      refine ds_app (i := 5) (xs := (([T, R].take i).map fun U => prodI (sortU (outQ U s))).map D.int) rfl (dv_var rfl) (by rw [List.length_map, List.length_map, List.length_take]; omega) ?_
      exact ⟨_, _, _, _, _, _, _, by rw [map_take_snoc hi, List.map_append] <;> rfl⟩
  rintro t ⟨a, b, c, e, g, h, q, rfl⟩
  refine ds_frz 5 rfl ?_
  apply ds_seq
  apply ds_if (b := !true)
  · apply dt_not
    apply dt_test
    refine cl__law_same (x := .lst [.int (prodI (sortU (outQ T s))), .int (prodI (sortU (outQ R s)))]) (da_cons ?_ (da_cons (dv_var rfl) da_nil)) (ok.r1 s hs)
    rw [← ok.pt, ← ok.pr]
    exact dv_lstN (ds := [.int (prodI (outM T s)), .int (prodI (outM R s))]) (da_cons (cl_part_count (d := dTI s) (s := s) (da_cons (dv_var rfl) (da_cons (dv_var rfl) da_nil)) hw amT) (da_cons (dv_part_countK (T := R) (d := dTI s) (s := s) (da_cons (dv_var rfl) (da_cons (dv_var rfl) da_nil)) hv amR) da_nil)) (by simp)
  · intro hb
    cases hb
  intro _
  apply ds_nx
  apply ds_seq
  refine ds_setE (Pd := fun d => ∃ ns : List Int, (∀ n ∈ ns, 0 ≤ n ∧ n < 10000) ∧ d = dLI ns) (de_op2 (d := dLI [0, 1]) (P := fun d => ∃ acc, d = .lst acc ∧ ∃ ns : List Int, (∀ n ∈ ns, 0 ≤ n ∧ n < 10000) ∧ ns.length ≤ 2 ∧ acc = ns.map D.int) (dv_lstN (ds := [.int 0, .int 1]) (da_cons dv_int (da_cons dv_int da_nil)) (by simp)) ?_ ?_) ?_
  · refine de_lc (List.range (2 : Int).toNat) (fun i => .int (0 + (i : Int))) (fun i => [(10, .int (0 + (i : Int)))]) (fun i acc => ∃ ns : List Int, (∀ n ∈ ns, 0 ≤ n ∧ n < 10000) ∧ ns.length ≤ i ∧ acc = ns.map D.int) (fun _ _ b => b = true) (di_rng1 (da_cons dv_int da_nil) (by decide)) (fun _ _ => dg_name) (fun _ _ => rfl) ⟨[], fun _ h => absurd h List.not_mem_nil, Nat.le_refl _, rfl⟩ ?_ ?_ ?_ (by decide) ?_
    · rintro i x acc hi hR
      exact DT.e dt_yes rfl
    · rintro i acc hb
      cases hb
    · rintro i x acc hi ⟨ns, h1, h2, h3⟩ _
      refine de_e (de__law_draw (m := 9999) rfl (da_cons dv_int da_nil) ⟨by decide, by decide⟩) ?_
      rintro d ⟨n, hn, rfl⟩
      refine ⟨ns ++ [n], fun m hm => ?_, by rw [List.length_append]; exact Nat.succ_le_succ h2, by rw [h3, List.map_append] <;> rfl⟩
      rcases List.mem_append.mp hm with z | z
      · exact h1 m z
      · rw [List.mem_singleton.mp z]
        omega
    · rintro acc ⟨ns, h1, h2, h3⟩
      exact ⟨ns, h1, h2, h3⟩
  · rintro y ⟨acc, rfl, ns, h1, h2, rfl⟩
    refine ⟨dLI ([0, 1] ++ ns), ?_, [0, 1] ++ ns, fun n hn => ?_, rfl⟩
    · refine ov_cast (ol_cat (by rw [List.length_map, List.length_map]; show 2 + ns.length ≤ _; omega)).v ?_
      rw [← List.map_append]
    · rcases List.mem_append.mp hn with z | z
      · simp only [List.mem_cons, List.not_mem_nil, or_false] at z
        omega
      · exact h1 n z
  rintro d ⟨ns, hns, rfl⟩
  apply ds_seq
  refine ds_for ns D.int (fun n => [(11, .int n)]) (fun i t => ∃ a b c e g z y v u, t = [.src, .d (dTab T), .d (dTab R), a, b, c, e, g, z, y, u, v, q] ∨ ∃ q', t = [.src, .d (dTab T), .d (dTab R), a, b, c, e, g, z, y, u, v, q']) (di_list (dv_var rfl)) (fun _ _ => dg_name) ⟨_, _, _, _, _, _, _, _, _, .inr ⟨_, rfl⟩⟩ ?_ ?_
  · rintro i n t hi ⟨a, b, c, e, g, z, y, v, u, ht⟩
    have hn := hns n (mem_at hi)
    obtain ⟨q', rfl⟩ : ∃ q', t = [.src, .d (dTab T), .d (dTab R), a, b, c, e, g, z, y, u, v, q'] := by
      rcases ht with h | h
      · exact ⟨q, h⟩
      · exact h
    have pT := Int.le_trans hT.pm (show (1000 : Int) ≤ 1000 by decide)
    have pR := Int.le_trans hR.pm (show (1000 : Int) ≤ 1000 by decide)
    apply ds_seq
    apply ds_set (d := .lst [.int (twL T n), .int (twL R n)])
    · exact dv_lstN (da_cons (cl__law_twist (da_cons (dv_var rfl) (da_cons (dv_var rfl) da_nil)) ⟨hw, hT.l2, pT⟩) (da_cons (cl__law_twist (T := R) (da_cons (dv_var rfl) (da_cons (dv_var rfl) da_nil)) ⟨hv, hR.l2, pR⟩) da_nil)) (by simp)
    apply ds_seq
    apply ds_if (b := !true)
    · apply dt_not
      apply dt_test
      refine cl__law_same (x := .lst [.int (twL T n), .int (twL R n)]) (da_cons ?_ (da_cons (dv_var rfl) da_nil)) (ok.r2 n hn.1 hn.2)
      rw [← ok.tt n hn.1 hn.2, ← ok.tr n hn.1 hn.2]
      exact dv_lstN (da_cons (cl_twisted_count (T := T) (da_cons (dv_var rfl) (da_cons (dv_var rfl) da_nil)) hw hn) (da_cons (cl_twisted_count (T := R) (da_cons (dv_var rfl) (da_cons (dv_var rfl) da_nil)) hv hn) da_nil)) (by simp)
    · intro hb
      cases hb
    intro _
    apply ds_nx
    apply ds_if (b := aliL T R && !decide (twL T n = twL R n))
    · apply dt_and
      · apply dt_B
        exact cl__law_are_alike (da_cons (dv_var rfl) (da_cons (dv_var rfl) da_nil)) ⟨hw, hv⟩
      · intro _
        apply dt_test
        exact dv_op (dv_op (dv_var rfl) dv_int (ov_ixL rfl)) (dv_op (dv_var rfl) dv_int (ov_ixL rfl)) ov_neI
    · intro hb
      obtain ⟨h1, h2⟩ := Bool.and_eq_true_iff.mp hb
      rw [ok.al h1 n hn.1 hn.2, decide_eq_true rfl] at h2
      cases h2
    · intro _
      apply ds_nx
      exact ⟨_, _, _, _, _, _, _, _, _, .inr ⟨_, rfl⟩⟩
  · rintro t ⟨a, b, c, e, g, z, y, v, u, ht⟩
    apply ds_ret (d := .bl true)
    · exact dv_bl
    · rfl
theorem de__law_counts_go {i : Nat} {T R : Tab} (hi : sl[i]? = some .src) (h : DA tr sl [dTab T, dTab R]) (hw : CH T ∧ CH R ∧ CountOk T R) : DE (tCall sp__law_counts_go [] E (tCons (tVar i) tr)) sl (fun d => d = .bl true) := de_call (enc := fun x : Tab × Tab => [dTab x.1, dTab x.2]) (T, R) hi h hw
end
end Wa
set_option maxHeartbeats 4000000
namespace Wa
open PySem PySem.Spec PyProof.Rows L2
local macro_rules | `(tactic| walk_at "s") => `(tactic| first
  | with_reducible exact dv_int | with_reducible exact dv_bl | with_reducible exact dv_str | with_reducible exact dv_non
  | ((with_reducible apply dv_var); first | rfl | (show _ = _; assumption))
  | with_reducible apply dv_op
  | with_reducible apply da_cons | with_reducible exact da_nil
  | with_reducible apply dv_tup2 | with_reducible apply dv_tup1 | with_reducible apply dv_tup3 | with_reducible exact dv_tup0
  | with_reducible apply dv_isN | with_reducible apply dv_notN
  | with_reducible apply dt_test | with_reducible apply dt_B | with_reducible exact dt_yes
  | with_reducible apply (dt_and ?_ fun _ => ?_) | with_reducible apply (dt_or ?_ fun _ => ?_) | with_reducible apply dt_not
  | with_reducible apply (dv_and ?_ fun _ => ?_) | with_reducible apply dv_not
  | with_reducible apply (dv_chain (g := D.non) ?_ ?_ ?_ (fun _ => ?_) (fun _ => ?_))
  | with_reducible exact ov_I0 | with_reducible exact ov_B0 | ((with_reducible apply ov_I); first | (show 0 < _; omega) | (unfold CDiv; omega) | (unfold CMul; omega) | (unfold CDivN; omega) | skip)
  | with_reducible exact ov_eqI | with_reducible exact ov_neI | with_reducible exact ov_eqB | with_reducible exact ov_eqS | with_reducible exact ov_notB
  | with_reducible exact ov_isN | with_reducible exact ov_notN
  | with_reducible apply dv_neg
  | with_reducible apply dv_isInt | with_reducible apply dv_isBool
  | with_reducible apply dv_cb
  | (with_reducible exact cv_tupleK) | (with_reducible exact cv_tupF) | (with_reducible exact cv_intK) | (with_reducible exact cv_sum) | (with_reducible exact cv_all) | (with_reducible exact cv_any) | ((with_reducible apply cv_lenK); rfl)
  | (exact ov_ixT rfl rfl) | (exact ov_ixL rfl)
  | with_reducible apply dv_din | with_reducible apply dv_dnotin
  | (show D.items _ = some _; rfl) | (show D.seq _ = some _; rfl) | ((show WF _); assumption))
local macro_rules | `(tactic| walk_at "s") => `(tactic| first | with_reducible apply cl_power_in | with_reducible apply cl_size_in | with_reducible apply cl_weight_of | with_reducible apply cl_rows_in | with_reducible apply cl_web_in | with_reducible apply cl_movers_in | with_reducible apply cl_moved_in | with_reducible apply cl_still_in | with_reducible apply cl_moved_by | with_reducible apply cl_movers_on | with_reducible apply cl_struck_by | with_reducible apply cl_subsets_of | with_reducible apply cl_cut_in | with_reducible apply cl_log_in | with_reducible apply cl_row_power | with_reducible apply cl_power_in_rows | with_reducible apply cl_alike_in | with_reducible apply cl_is_undivided | with_reducible apply cl_is_whole_number | with_reducible apply cl_is_count | with_reducible apply cl_is_small_prime | with_reducible apply cl_is_pair | with_reducible apply cl_are_rising | with_reducible apply cl_are_primes_among | with_reducible apply cl_prime_fault | with_reducible apply cl_move_fault | with_reducible apply cl_row_fault | with_reducible apply cl_table_fault | with_reducible apply cl_want2 | with_reducible apply cl_want_table1 | with_reducible apply cl_want_table2 | with_reducible apply cl_want_primes2 | with_reducible apply cl_want_both | with_reducible apply cl_are_alike | with_reducible apply cl_moved_out | with_reducible apply cl_parts_in | with_reducible apply cl_part_count | with_reducible apply cl_is_like_part | with_reducible apply cl_alike_parts_in | with_reducible apply cl_parts_alike | with_reducible apply cl_cut_to | with_reducible apply cl_other_moved | with_reducible apply cl_twisted_in | with_reducible apply cl_twisted_count | with_reducible apply cl__law_up | with_reducible apply cl__law_roots | with_reducible apply cl__law_movers | with_reducible apply cl__law_row | with_reducible apply cl__law_web | with_reducible apply cl__law_power_between | with_reducible apply cl__law_are_alike | with_reducible apply cl__law_cut | with_reducible apply cl__law_threes | with_reducible apply cl__law_many | with_reducible apply cl__law_factors | with_reducible apply cl__law_twist | with_reducible apply cl__law_worlds | with_reducible apply cl__law_same | with_reducible apply cl__law_are_told | with_reducible apply cl__law_pairs_tell )
section
variable {α : Type} {enc : α → List D} {pre : α → Prop} {resS : α → D → Prop} {sl : List Sl} {te : TE} {E : XK} {i : Nat}
theorem de_callE {Pd Q : D → Prop} (hi : sl[i]? = some .src) (h : DE te sl Pd) (k : ∀ d, Pd d → ∃ x, enc x = [d] ∧ pre x ∧ ∀ e, resS x e → Q e) : DE (tCall (spS enc pre resS) [] E (tCons (tVar i) (tCons te tNil))) sl Q := fun S G H σ st R q => by
  obtain ⟨a, ea, es⟩ := st.sls i _ hi
  subst ea
  refine ⟨_, es, h _ G H σ st _ fun G1 H1 v d s1 so r1 pd => ?_⟩
  obtain ⟨x, e1, hp, hq⟩ := k d pd
  exact ⟨G1, a, [v], x, rfl, s1.gh, so a rfl, by rw [e1]; exact .cons r1 .nil, hp, fun G2 H2 w e s2 so2 r2 p => q G2 H2 w e (s1.tr s2) (fun b eb => by cases eb; exact so2) r2 (hq e p)⟩
end
def Good : Prop := ∀ T R, CH T → CH R → R.1 = T.1 → ToldOk T R ∧ PairOk T R ∧ PairOk R T ∧ CountOk T R
section
variable {P : Program} {w : World} {K : PySem.W.Frag} {mg : Str → Option Value} {base : Heap} {f : Addr} {fd : FuncData} {tv : Value} {sl : List Sl} {tr tk : TA} {E : XK}
abbrev s_law : Stmt := topS 90
abbrev N_law : List Str := ["_law_script", "_law_src", "_law_worlds_here", "_law_world", "_law_lap", "_law_chart_here", "_law_rival"]
theorem sc_law : FnScope N_law ["_law_script"] (defScope s_law) := ⟨rfl, rfl, rfl, by decide +kernel, rfl, by decide +kernel, by decide +kernel⟩
def sp_law (K : PySem.W.Frag) : Sp := fun vs H Q _ => ∃ (l : Addr) (cs : List Int), vs = [.ref l] ∧ SqL K H l (cs.map V.int) ∧ ∀ H', Q (.bl true) H'
theorem law_len {vs : List V} {H : Hp} {Q : VK} {E : XK} (h : sp_law K vs H Q E) : vs.length = 1 := by
  obtain ⟨l, cs, rfl, _⟩ := h
  rfl
theorem ok_law (hM : Good) (D__law_feed : Def P w K mg base "_law_feed" ["_law_script"] [] 1 (sp__law_feed K)) (D__law_worlds : Def P w K mg base "_law_worlds" [] [] 1 sp__law_worlds) (D__law_chart : Def P w K mg base "_law_chart" ["_law_src", "_law_world"] [] 3 sp__law_chart) (D__law_any : Def P w K mg base "_law_any" ["_law_src", "_law_some"] [] 2 sp__law_any) (D__law_near : Def P w K mg base "_law_near" ["_law_src", "_law_chart_here"] [] 3 sp__law_near) (D__law_are_told : DefG P w K mg base "_law_are_told" ["_law_chart_here", "_law_rival"] 8 sp__law_are_told) (D__law_pairs_tell : DefG P w K mg base "_law_pairs_tell" ["_law_chart_here", "_law_rival"] 8 sp__law_pairs_tell) (D__law_counts_go : DefG P w K mg base "_law_counts_go" ["_law_src", "_law_chart_here", "_law_rival"] 7 sp__law_counts_go) (B : Blt mg tv) (F : Fun K "law" "law" s_law f fd) : FnG P w K mg base 9 f fd ["_law_script"] (sp_law K) := by
  have nd := sc_law.nd
  refine fun_okG (k := 8) F sc_law (fun vs H Q E h => law_len h) (fun cdv A outer s H vs Q E hG hr h => ?_)
  refine ⟨_, (pss_cons (ps_set (i := 1) nd rfl (Or.inl rfl) (pe_def D__law_feed (hr.mono (by decide)) (by rfl) (pa_cons (pv 0) pa_nil)))
      (pss_cons (ps_setLc (i := 2) (own := [("_law_world", 3)]) rfl nd rfl rfl (sw_true rfl rfl rfl (by decide +kernel)) (pi_listK K (pe_def0 D__law_worlds (hr.mono (by decide)) (by rfl))) (blkOk_by (N := N_law) (sc := (defScope s_law)) (by decide +kernel)) (fun _ _ _ _ _ => (pg_name (i := 3) nd rfl (Or.inl rfl))) (fun _ _ _ _ _ => pts_one (pt_cmpR op_gt (pe_callB (call_lenK K) (by rfl) B.len_ (by decide +kernel) (pa_cons (pe_ix (ix_tupK K) (pv 3) pe_int (fun _ _ => rfl)) pa_nil)) pe_int (nomark _))) (fun _ _ _ _ _ => (pv 3)))
      (pss_cons (ps_for PassesOwn.never rfl (pi_range1 rfl B.range_ (pa_cons pe_int pa_nil)) (pg_name (i := 4) nd rfl (Or.inl rfl)) (pss_cons (ps_set (i := 5) nd rfl (Or.inl rfl) (pe_def D__law_chart (hr.mono (by decide)) (by rfl) (pa_cons (pv 1) (pa_cons (pe_def D__law_any (hr.mono (by decide)) (by rfl) (pa_cons (pv 1) (pa_cons (pe_ifExp (pt_cmpR op_eq (pv 4) pe_int (nomark _)) (pe_slice (sl_listK K) (pv 2) (po_some (pe_un un_neg pe_int)) po_none) (pv 2)) pa_nil))) pa_nil))))
      (pss_cons (ps_set (i := 6) nd rfl (Or.inl rfl) (pe_def D__law_near (hr.mono (by decide)) (by rfl) (pa_cons (pv 1) (pa_cons (pv 5) pa_nil))))
      (pss_cons (ps_if (PW.pt (pw_or (pt_not (pt_val (pe_defG D__law_are_told hG (hr.mono (by decide)) (by rfl) (pa_cons (pv 5) (pa_cons (pv 6) pa_nil))))) (pw_or1 (pt_not (pt_val (pe_defG D__law_pairs_tell hG (hr.mono (by decide)) (by rfl) (pa_cons (pv 5) (pa_cons (pv 6) pa_nil)))))))) (pss_one (ps_ret pe_bl)) pss_nil)
      (pss_one (ps_if (PW.pt (pw_or (pt_not (pt_val (pe_defG D__law_pairs_tell hG (hr.mono (by decide)) (by rfl) (pa_cons (pv 6) (pa_cons (pv 5) pa_nil))))) (pw_or1 (pt_not (pt_val (pe_defG D__law_counts_go hG (hr.mono (by decide)) (by rfl) (pa_cons (pv 1) (pa_cons (pv 5) (pa_cons (pv 6) pa_nil))))))))) (pss_one (ps_ret pe_bl)) pss_nil))))))
      (pss_one (ps_ret pe_bl))))), ?_⟩
  obtain ⟨l, cs, rfl, hS, q⟩ := h
  refine ⟨.ref l, rfl, ?_⟩
  refine ⟨fun _ => none, cs, l, fun _ _ e => (nomatch e), rfl, hS, fun G1 H1 a s1 ha sa => ?_⟩
  have st : StS (some a) (fun _ => none) G1 H1 [some (.ref l), some (.ref a), none, none, none, none, none] [.un, .src, .un, .un, .un, .un, .un] := by
    refine ⟨⟨s1.gh, rfl, fun i x e => ?_, fun b eb => ?_, fun i j x y p e1 e2 o1 => ?_⟩, ⟨fun _ _ e => (nomatch e), fun _ _ e => (nomatch e)⟩, fun _ _ _ _ _ _ => rfl⟩
    · match i, e with
      | 0, e =>
        cases e
        trivial
      | 1, e =>
        cases e
        exact ⟨a, rfl, rfl⟩
      | 2, e =>
        cases e
        trivial
      | 3, e =>
        cases e
        trivial
      | 4, e =>
        cases e
        trivial
      | 5, e =>
        cases e
        trivial
      | 6, e =>
        cases e
        trivial
      | n + 7, e => cases e
    · cases eb
      exact sa
    · match i, e1 with
      | 0, e =>
        cases e
        cases o1
      | 1, e =>
        cases e
        cases o1
      | 2, e =>
        cases e
        cases o1
      | 3, e =>
        cases e
        cases o1
      | 4, e =>
        cases e
        cases o1
      | 5, e =>
        cases e
        cases o1
      | 6, e =>
        cases e
        cases o1
      | n + 7, e => cases e
  have st' : StS (some a) (fun _ => none) G1 H1 ((L2.start N_law [.ref l]).set 1 (some (.ref a))) [.un, .src, .un, .un, .un, .un, .un] := st
  dsimp only [gName]
  refine (?_ : DS (tSeq (tAsg _ (gName 2)) _) [.un, .src, .un, .un, .un, .un, .un] { nx := fun _ => False, rt := fun d => d = .bl true }) (some a) (fun _ => none) G1 H1 _ _ st' ⟨fun _ _ _ _ _ _ b => False.elim b, fun G' H' v d _ _ _ _ rd e => ?_, fun _ _ _ _ _ _ b => False.elim b, fun _ _ _ _ _ _ b => False.elim b, fun _ _ _ _ _ _ _ _ _ _ _ _ _ b => False.elim b⟩
  rotate_left
  · subst e
    cases rd
    exact q H'
  apply ds_seq
  apply ds_set (d := .lst (bigW.map dWorld))
  · refine DV.cast (dl_lcE worldsM dWorld (fun W => [(3, dWorld W)]) (fun W => decide (1 < W.1.length)) id dWorld (di_list cl__law_worlds) (fun _ _ => dg_name) (fun _ _ => rfl) (fun W _ => ?_) (fun W _ _ => dv_var rfl) (by decide)) (by rw [List.map_id] <;> rfl)
    apply DT.cast
    · apply dt_test
      apply dv_op
      · exact dv_cb (da_cons (dv_op (dv_var (d := dWorld W) rfl) dv_int (ov_ixT (f := dFI W.1) rfl rfl)) da_nil) (cv_lenK rfl)
      · exact dv_int
      · exact ov_B0
    · rw [List.length_map]
      exact decide_eq_decide.mpr (by omega)
  apply ds_seq
  refine ds_for (List.range (2 : Int).toNat) (fun i => .int (0 + (i : Int))) (fun i => [(4, .int (0 + (i : Int)))]) (fun i t => ∃ b c e g, t = [.un, .src, .d (.lst (bigW.map dWorld)), b, c, e, g]) (di_rng1 (da_cons dv_int da_nil) (by decide)) (fun _ _ => dg_name) ⟨_, _, _, _, rfl⟩ ?_ ?_
  · rintro i ii t hi ⟨b, c, e, g, rfl⟩
    obtain ⟨hi1, ei⟩ := List.getElem?_eq_some_iff.mp hi
    rw [List.getElem_range] at ei
    subst ei
    have big : ∀ W ∈ bigW, WW W := fun W hW => by
      obtain ⟨h1, h2⟩ := List.mem_filter.mp hW
      exact worlds_ok h1 (of_decide_eq_true h2)
    have pick : ∃ L : List World0, L ≠ [] ∧ L.length < 10000 ∧ (∀ W ∈ L, WW W) ∧ DV (tIf (tTest (tOp rEq (tVar 4) (tC (.int 0)))) (tSl (rSlL K) (tVar 2) (tPart (tUn (rU fun i => V.int (-i)) (tC (V.int 8)))) tNoPart) (tVar 2)) (setS [.un, .src, .d (.lst (bigW.map dWorld)), b, c, e, g] [(4, .int (0 + (i : Int)))]) (.lst (L.map dWorld)) := by
      by_cases h0 : (0 : Int) + (i : Int) = 0
      · refine ⟨bigW.drop (HT.sIx (bigW.map dWorld).length 0 (some (-8))), by decide, by decide, fun W hW => big W (List.mem_of_mem_drop hW), dv_if (b := decide ((0 : Int) + (i : Int) = 0)) (dt_test (dv_op (dv_var rfl) dv_int ov_eqI)) (fun _ => ?_) (fun h => ?_)⟩
        · refine DV.cast (dl_from (ds := bigW.map dWorld) (dv_var rfl) (dv_neg dv_int)).v ?_
          rw [List.map_drop]
        · rw [decide_eq_true h0] at h
          cases h
      · refine ⟨bigW, by decide, by decide, big, dv_if (b := decide ((0 : Int) + (i : Int) = 0)) (dt_test (dv_op (dv_var rfl) dv_int ov_eqI)) (fun h => ?_) (fun _ => dv_var rfl)⟩
        rw [decide_eq_false h0] at h
        cases h
    obtain ⟨L, l1, l2, l3, l4⟩ := pick
    apply ds_seq
    refine ds_setE (Pd := fun d => ∃ T, CH T ∧ d = dTab T) (de_callE (i := 1) (enc := fun x : List Int × List Pr => [dWorld x]) (pre := WW) (resS := resChart) rfl (de__law_any (x := L.map dWorld) rfl (da_cons l4 da_nil) ⟨fun h => l1 (List.map_eq_nil_iff.mp h), by rw [List.length_map]; exact l2⟩) fun d hd => ?_) ?_
    · obtain ⟨W, hW, rfl⟩ := List.mem_map.mp hd
      refine ⟨W, rfl, l3 W hW, ?_⟩
      rintro e ⟨T, hT, _, rfl⟩
      exact ⟨T, hT, rfl⟩
    rintro d ⟨T, hT, rfl⟩
    apply ds_seq
    refine ds_setE (Pd := resNear T) (de__law_near (i := 1) rfl (da_cons (dv_var rfl) da_nil) hT) ?_
    rintro d ⟨R, hR, hRT, rfl⟩
    obtain ⟨m1, m2, m3, m4⟩ := hM T R hT hR hRT
    apply ds_seq
    apply ds_if (b := !true || !true)
    · apply dt_or
      · apply dt_not
        apply dt_B
        exact cl__law_are_told (da_cons (dv_var rfl) (da_cons (dv_var rfl) da_nil)) ⟨hT, hR, m1⟩
      · intro _
        apply dt_not
        apply dt_B
        exact cl__law_pairs_tell (da_cons (dv_var rfl) (da_cons (dv_var rfl) da_nil)) ⟨hT, hR, m2⟩
    · intro hb
      cases hb
    intro _
    apply ds_nx
    refine ds_ifE (Pb := fun b => b = false) (dte_or (a := !true) (P := fun b => b = false) (dt_not (dt_B (cl__law_pairs_tell (T := R) (R := T) (da_cons (dv_var rfl) (da_cons (dv_var rfl) da_nil)) ⟨hR, hT, m3⟩))) (fun _ => dte_not (P := fun b => b = true) (dte_B (de__law_counts_go (i := 1) rfl (da_cons (dv_var rfl) (da_cons (dv_var rfl) da_nil)) ⟨hT, hR, m4⟩) fun d hd => ⟨true, hd, rfl⟩) fun b hb => by rw [hb] <;> rfl) (fun h => by cases h) fun _ b hb => hb) (fun h => by cases h) (fun _ => ?_)
    apply ds_nx
    exact ⟨_, _, _, _, rfl⟩
  · rintro t ⟨b, c, e, g, rfl⟩
    apply ds_ret (d := .bl true)
    · exact dv_bl
    · rfl
end
end Wa
set_option maxHeartbeats 4000000
/-! Plain laws: what leaves a cut; powers in a row; the two likenesses are one. -/
namespace Wa
open PySem PySem.Spec PyProof.Rows L2
theorem outM_eq {T : Tab} (hw : WF T) (s : List Int) : outM T s = sortU (outQ T s) := by
  refine sorted_same (hw.ps.sublist List.filter_sublist) (sortU_sorted _) fun k => ?_
  rw [mem_sortU]
  unfold outM outQ
  rw [List.mem_filter, List.mem_map]
  constructor
  · rintro ⟨h1, h2⟩
    rw [Bool.and_eq_true] at h2
    obtain ⟨e, he, h3⟩ := List.any_eq_true.mp h2.1
    rw [Bool.and_eq_true] at h3
    have h4 : e.2 = k := of_decide_eq_true h3.2
    refine ⟨e, List.mem_filter.mpr ⟨he, ?_⟩, h4⟩
    rw [h3.1, h4, h2.2] <;> rfl
  · rintro ⟨e, he, rfl⟩
    obtain ⟨h1, h2⟩ := List.mem_filter.mp he
    rw [Bool.and_eq_true] at h2
    obtain ⟨m, hm, x, hx, rfl⟩ := mem_web.mp h1
    refine ⟨((hw.mv m hm).ed x hx).1, ?_⟩
    rw [Bool.and_eq_true]
    refine ⟨List.any_eq_true.mpr ⟨_, h1, ?_⟩, h2.2⟩
    rw [h2.1, decide_eq_true rfl] <;> rfl
/-! powers -/
def esInj : Bool := ES.all fun e => (rootsM e.1 e.2).all fun g => (List.range e.1.toNat).all fun k => (List.range e.1.toNat).all fun j => !decide (upM g k e.2 = upM g j e.2) || decide (k = j)
theorem esInj_ok : esInj = true := by decide +kernel
theorem es_inj {e : Int × Int} (h : e ∈ ES) {g : Int} (hg : g ∈ rootsM e.1 e.2) {k j : Nat} (hk : (k : Int) < e.1) (hj : (j : Int) < e.1) (q : upM g k e.2 = upM g j e.2) : k = j := by
  have a := List.all_eq_true.mp (List.all_eq_true.mp (List.all_eq_true.mp (List.all_eq_true.mp esInj_ok e h) g hg) k (List.mem_range.mpr (by omega))) j (List.mem_range.mpr (by omega))
  rw [decide_eq_true q] at a
  exact of_decide_eq_true (by simpa using a)
def rowP (b : Row) (k : Nat) : Row := b.map fun e => (e.1, upM e.2 k e.1)
theorem rowP_pow (b : Row) (k : Int) : rowPow b k = rowP b k.toNat := rfl
/-- a is a power of b, below p -/
def Lik (p : Int) (a b : Row) : Prop := ∃ k : Nat, 1 ≤ k ∧ (k : Int) < p ∧ a = rowP b k
theorem wfm_root {ps : List Int} {m : Int × Row} (h : WFm ps m) {e : Pr} (he : e ∈ m.2) : e.2 ∈ rootsM m.1 e.1 := by
  obtain ⟨_, _, c, d, f⟩ := h.ed e he
  exact mem_rootsM c d f
theorem pir_like {T R : Tab} (hw : WF T) (hv : WF R) {m : Int} (hm : m ∈ movers T) (hmr : m ∈ movers R) (hq : movedBy R m = movedBy T m) : (pirM T R m).isSome = true ↔ Lik m (rowOf T m) (rowOf R m) := by
  have wt := row_wf hw hm
  have wr := row_wf hv hmr
  have m2 := ps_of hw (mover_in hw hm)
  obtain ⟨t0, ts, ht⟩ := List.exists_cons_of_ne_nil wt.ne
  obtain ⟨r0, rs, hr⟩ := List.exists_cons_of_ne_nil wr.ne
  dsimp only at ht hr
  have t0m : t0 ∈ rowOf T m := by rw [ht]; exact List.mem_cons_self
  have r0m : r0 ∈ rowOf R m := by rw [hr]; exact List.mem_cons_self
  have e0 : r0.1 = t0.1 := by
    unfold movedBy at hq
    rw [ht, hr] at hq
    exact (List.cons.inj hq).1
  obtain ⟨t1, t2, t3, t4, t5⟩ := wt.ed t0 t0m
  obtain ⟨r1, r2, r3, r4, r5⟩ := wr.ed r0 r0m
  have rr := wfm_root wr r0m
  dsimp only at t2 r2 rr t5 r5
  have q2 := ps_of hw t1
  unfold pirM
  rw [if_neg (fun h => h hq), hr, ht]
  show (match logIn r0.2 t0.2 t0.1 m.toNat with
    | none => none
    | some k => if rowPow (r0 :: rs) k = t0 :: ts then some k else none).isSome = true ↔ _
  constructor
  · intro h
    cases hl : logIn r0.2 t0.2 t0.1 m.toNat with
    | none =>
      rw [hl] at h
      cases h
    | some k =>
      rw [hl] at h
      dsimp only at h
      split at h
      · rename_i he
        have hk := logIn_nn hl
        refine ⟨k.toNat, ?_, by omega, ?_⟩
        · by_cases z : k = 0
          · subst z
            rw [rowP_pow] at he
            have h1 := (List.cons.inj he).1
            have h2 : upM r0.2 (0 : Int).toNat r0.1 = t0.2 := congrArg Prod.snd h1
            have h3 : upM r0.2 (0 : Int).toNat r0.1 = 1 := by
              unfold upM
              rw [show (0 : Int).toNat = 0 from rfl, Int.pow_zero, Int.emod_eq_of_lt (by omega) (by omega)]
            omega
          · omega
        · rw [← he] <;> rfl
      · cases h
  · rintro ⟨k, k1, k2, hk⟩
    have h0 : upM r0.2 k t0.1 = t0.2 := by
      have := (List.cons.inj hk).1
      have := congrArg Prod.snd this
      rw [← e0]
      exact this.symm
    have hs : logIn r0.2 t0.2 t0.1 m.toNat = some (k : Int) := by
      refine logIn_some h0 (by omega) fun j hj hc => ?_
      have := es_inj (e := (m, r0.1)) r2 rr (k := j) (j := k) (by show (j : Int) < m; omega) k2 (by show upM r0.2 j r0.1 = upM r0.2 k r0.1; rw [e0, hc, h0])
      omega
    rw [hs]
    dsimp only
    rw [if_pos (by rw [rowP_pow, hk] <;> rfl)] <;> rfl
end Wa
set_option maxHeartbeats 4000000
/-! Plain laws: the law's likeness; likeness as a relation. -/
namespace Wa
open PySem PySem.Spec PyProof.Rows L2
theorem find_at : ∀ {b : Row} {e : Pr}, (b.map (·.1)).Pairwise (· < ·) → e ∈ b → b.find? (fun x => decide (x.1 = e.1)) = some e
  | [], e, _, h => by cases h
  | x :: b, e, hs, h => by
    rw [List.map_cons, List.pairwise_cons] at hs
    rw [List.find?_cons]
    rcases List.mem_cons.mp h with rfl | q
    · rw [decide_eq_true rfl]
    · have : x.1 < e.1 := hs.1 e.1 (List.mem_map.mpr ⟨e, q, rfl⟩)
      rw [decide_eq_false (show ¬ x.1 = e.1 by omega)]
      exact find_at hs.2 q
theorem rootOf_at {R : Tab} {p : Int} (hs : ((rowOf R p).map (·.1)).Pairwise (· < ·)) {e : Pr} (he : e ∈ rowOf R p) : rootOf R p e.1 = e.2 := by
  unfold rootOf
  rw [find_at hs he] <;> rfl
theorem odd_like {T R : Tab} {p : Int} {k : Int} (hs : ((rowOf R p).map (·.1)).Pairwise (· < ·)) (hq : (rowOf T p).map (·.1) = (rowOf R p).map (·.1)) : oddM T R p k = [] ↔ rowOf T p = rowP (rowOf R p) k.toNat := by
  have go : ∀ (a b : Row), a.map (·.1) = b.map (·.1) → (∀ e ∈ b, rootOf R p e.1 = e.2) → ((a.filter fun e => !decide (upM (rootOf R p e.1) k.toNat e.1 = e.2)) = [] ↔ a = rowP b k.toNat) := fun a => by
    induction a with
    | nil =>
      intro b h _
      cases b with
      | nil => exact ⟨fun _ => rfl, fun _ => rfl⟩
      | cons x b => cases h
    | cons x a ih =>
      intro b h hr
      cases b with
      | nil => cases h
      | cons y b =>
        rw [List.map_cons, List.map_cons] at h
        obtain ⟨h1, h2⟩ := List.cons.inj h
        have hy := hr y List.mem_cons_self
        have ih2 := ih b h2 fun e he => hr e (List.mem_cons_of_mem _ he)
        have e1 : rootOf R p x.1 = y.2 := by rw [show x.1 = y.1 from h1, hy]
        rw [List.filter_cons, e1]
        have hp : rowP (y :: b) k.toNat = (y.1, upM y.2 k.toNat y.1) :: rowP b k.toNat := rfl
        rw [hp]
        by_cases hc : upM y.2 k.toNat x.1 = x.2
        · rw [decide_eq_true hc, if_neg (by simp), ih2]
          constructor
          · intro h3
            rw [h3]
            congr 1
            refine Prod.ext h1 ?_
            rw [← show x.1 = y.1 from h1]
            exact hc.symm
          · intro h3
            exact (List.cons.inj h3).2
        · rw [decide_eq_false hc, if_pos (by rfl)]
          constructor
          · intro h3
            cases h3
          · intro h3
            have := congrArg Prod.snd (List.cons.inj h3).1
            refine absurd ?_ hc
            rw [show x.1 = y.1 from h1]
            exact this.symm
  unfold oddM
  rw [List.map_eq_nil_iff]
  exact go _ _ hq fun e he => rootOf_at hs he
theorem pb_like {T R : Tab} (hw : WF T) (hv : WF R) (he : web T = web R) {p : Int} (hp : p ∈ movers T) : (dOpt (pbM T R p)).isN = false ↔ Lik p (rowOf T p) (rowOf R p) := by
  obtain ⟨hmr, hqs⟩ := web_rows hw hv he hp
  have wr := row_wf hv hmr
  have p2 := ps_of hw (mover_in hw hp)
  have key : (dOpt (pbM T R p)).isN = false ↔ pbKs T R p ≠ [] := by
    unfold pbM
    cases pbKs T R p with
    | nil => exact ⟨fun h => (by cases h), fun h => absurd rfl h⟩
    | cons a b => exact ⟨fun _ h => (by cases h), fun _ => rfl⟩
  rw [key]
  constructor
  · intro h
    obtain ⟨x, hx⟩ := List.exists_mem_of_ne_nil _ h
    obtain ⟨i, hi, rfl⟩ := List.mem_map.mp hx
    obtain ⟨h1, h2⟩ := List.mem_filter.mp hi
    have h1 := List.mem_range.mp h1
    have h3 := (odd_like wr.so hqs).mp (of_decide_eq_true h2)
    exact ⟨(1 + (i : Int)).toNat, by omega, by omega, h3⟩
  · rintro ⟨k, k1, k2, hk⟩ hn
    have h3 : oddM T R p (1 + ((k - 1 : Nat) : Int)) = [] := (odd_like wr.so hqs).mpr (by rw [hk]; congr 1; omega)
    have : (1 : Int) + ((k - 1 : Nat) : Int) ∈ pbKs T R p := List.mem_map.mpr ⟨k - 1, List.mem_filter.mpr ⟨List.mem_range.mpr (by omega), decide_eq_true h3⟩, rfl⟩
    rw [hn] at this
    cases this
/-- the two tables are alike -/
structure Alike (T R : Tab) : Prop where
  ps : T.1 = R.1
  wb : web T = web R
  rw : ∀ m ∈ movers T, Lik m (rowOf T m) (rowOf R m)
theorem aliM_iff {T R : Tab} (hw : WF T) (hv : WF R) : aliM T R = true ↔ Alike T R := by
  unfold aliM
  by_cases h : T.1 ≠ R.1 ∨ web T ≠ web R
  · rw [if_pos h]
    refine ⟨fun h => (by cases h), fun a => ?_⟩
    rcases h with h | h
    · exact absurd a.ps h
    · exact absurd a.wb h
  · rw [if_neg h]
    have h1 : T.1 = R.1 := Classical.not_not.mp fun z => h (.inl z)
    have h2 : web T = web R := Classical.not_not.mp fun z => h (.inr z)
    have key : ∀ m ∈ movers T, ((pirM T R m).isSome = true ↔ Lik m (rowOf T m) (rowOf R m)) := fun m hm => by
      obtain ⟨a, b⟩ := web_rows hw hv h2 hm
      exact pir_like hw hv hm a b.symm
    rw [List.all_eq_true]
    exact ⟨fun a => ⟨h1, h2, fun m hm => (key m hm).mp (a m hm)⟩, fun a m hm => (key m hm).mpr (a.rw m hm)⟩
theorem aliL_iff {T R : Tab} (hw : WF T) (hv : WF R) : aliL T R = true ↔ Alike T R := by
  unfold aliL
  by_cases h : T.1 ≠ R.1 ∨ web T ≠ web R
  · rw [if_pos h]
    refine ⟨fun h => (by cases h), fun a => ?_⟩
    rcases h with h | h
    · exact absurd a.ps h
    · exact absurd a.wb h
  · rw [if_neg h]
    have h1 : T.1 = R.1 := Classical.not_not.mp fun z => h (.inl z)
    have h2 : web T = web R := Classical.not_not.mp fun z => h (.inr z)
    rw [decide_eq_true_eq, List.filter_eq_nil_iff]
    constructor
    · intro a
      exact ⟨h1, h2, fun m hm => (pb_like hw hv h2 hm).mp (by simpa using a m hm)⟩
    · intro a m hm
      have := (pb_like hw hv h2 hm).mpr (a.rw m hm)
      rw [this]
      exact Bool.false_ne_true
theorem ali_same {T R : Tab} (hw : WF T) (hv : WF R) : aliM T R = aliL T R := by
  rw [Bool.eq_iff_iff, aliM_iff hw hv, aliL_iff hw hv]
end Wa
set_option maxHeartbeats 4000000
/-! Plain laws: likeness is an equivalence; goals of up to three primes. -/
namespace Wa
open PySem PySem.Spec PyProof.Rows L2
def esMul : Bool := ES.all fun e => (rootsM e.1 e.2).all fun g => decide (upM g 1 e.2 = g) && (List.range e.1.toNat).all fun k => (List.range e.1.toNat).all fun j => decide (upM (upM g k e.2) j e.2 = upM g (k * j % e.1.toNat) e.2)
theorem esMul_ok : esMul = true := by decide +kernel
theorem es_mul {e : Int × Int} (h : e ∈ ES) {g : Int} (hg : g ∈ rootsM e.1 e.2) : upM g 1 e.2 = g ∧ ∀ k j : Nat, (k : Int) < e.1 → (j : Int) < e.1 → upM (upM g k e.2) j e.2 = upM g (k * j % e.1.toNat) e.2 := by
  have a := List.all_eq_true.mp (List.all_eq_true.mp esMul_ok e h) g hg
  rw [Bool.and_eq_true] at a
  exact ⟨of_decide_eq_true a.1, fun k j hk hj => of_decide_eq_true (List.all_eq_true.mp (List.all_eq_true.mp a.2 k (List.mem_range.mpr (by omega))) j (List.mem_range.mpr (by omega)))⟩
def esInv : Bool := ES.all fun e => (List.range e.1.toNat).all fun k => decide (k = 0) || ((List.range e.1.toNat).any fun j => decide (1 ≤ j) && decide (k * j % e.1.toNat = 1)) && (List.range e.1.toNat).all fun j => decide (j = 0) || decide (1 ≤ k * j % e.1.toNat)
theorem esInv_ok : esInv = true := by decide +kernel
theorem es_inv {e : Int × Int} (h : e ∈ ES) {k : Nat} (k1 : 1 ≤ k) (k2 : (k : Int) < e.1) : (∃ j : Nat, 1 ≤ j ∧ (j : Int) < e.1 ∧ k * j % e.1.toNat = 1) ∧ ∀ j : Nat, 1 ≤ j → (j : Int) < e.1 → 1 ≤ k * j % e.1.toNat := by
  have a := List.all_eq_true.mp (List.all_eq_true.mp esInv_ok e h) k (List.mem_range.mpr (by omega))
  rw [decide_eq_false (show ¬ k = 0 by omega), Bool.false_or, Bool.and_eq_true] at a
  obtain ⟨j, hj, h2⟩ := List.any_eq_true.mp a.1
  have hj := List.mem_range.mp hj
  rw [Bool.and_eq_true] at h2
  refine ⟨⟨j, of_decide_eq_true h2.1, by omega, of_decide_eq_true h2.2⟩, fun j j1 j2 => ?_⟩
  have b := List.all_eq_true.mp a.2 j (List.mem_range.mpr (by omega))
  rw [decide_eq_false (show ¬ j = 0 by omega), Bool.false_or] at b
  exact of_decide_eq_true b
/-- a right row: all of p's, each with a right root -/
def RR (p : Int) (b : Row) : Prop := ∀ e ∈ b, (p, e.1) ∈ ES ∧ e.2 ∈ rootsM p e.1
theorem wfm_rr {ps : List Int} {m : Int × Row} (h : WFm ps m) : RR m.1 m.2 := fun e he => ⟨(h.ed e he).2.1, wfm_root h he⟩
theorem rr_rowP {p : Int} {b : Row} (h : RR p b) {k : Nat} (k1 : 1 ≤ k) (k2 : (k : Int) < p) : RR p (rowP b k) := fun e he => by
  obtain ⟨x, hx, rfl⟩ := List.mem_map.mp he
  obtain ⟨a, c⟩ := h x hx
  have r := (es_roots a).2.2 x.2 c k k1 k2
  have q2 := rootsM_mem c
  exact ⟨a, mem_rootsM r.1 (upM_lo (by omega)).2 r.2⟩
theorem rowP_mul {p : Int} {b : Row} (h : RR p b) {k j : Nat} (hk : (k : Int) < p) (hj : (j : Int) < p) : rowP (rowP b k) j = rowP b (k * j % p.toNat) := by
  unfold rowP
  rw [List.map_map]
  refine List.map_congr_left fun e he => ?_
  obtain ⟨a, c⟩ := h e he
  have := (es_mul (e := (p, e.1)) a c).2 k j hk hj
  show (e.1, upM (upM e.2 k e.1) j e.1) = _
  rw [this]
theorem rowP_one {p : Int} {b : Row} (h : RR p b) : rowP b 1 = b := by
  unfold rowP
  refine (List.map_congr_left fun e he => ?_).trans (List.map_id b)
  obtain ⟨a, c⟩ := h e he
  have := (es_mul (e := (p, e.1)) a c).1
  show (e.1, upM e.2 1 e.1) = e
  rw [this]
theorem rr_ne {p : Int} {b : Row} (h : RR p b) (hb : b ≠ []) : ∃ q, (p, q) ∈ ES := by
  obtain ⟨e, es, rfl⟩ := List.exists_cons_of_ne_nil hb
  exact ⟨e.1, (h e List.mem_cons_self).1⟩
theorem lik_symm {p : Int} {a b : Row} (h : RR p b) (hb : b ≠ []) (l : Lik p a b) : Lik p b a := by
  obtain ⟨k, k1, k2, rfl⟩ := l
  obtain ⟨q, hq⟩ := rr_ne h hb
  obtain ⟨⟨j, j1, j2, j3⟩, _⟩ := es_inv (e := (p, q)) hq k1 k2
  exact ⟨j, j1, j2, by rw [rowP_mul h k2 j2, show k * j % p.toNat = 1 from j3, rowP_one h]⟩
theorem lik_trans {p : Int} {a b c : Row} (h : RR p c) (hc : c ≠ []) (l1 : Lik p a b) (l2 : Lik p b c) : Lik p a c := by
  obtain ⟨k, k1, k2, rfl⟩ := l1
  obtain ⟨j, j1, j2, rfl⟩ := l2
  obtain ⟨q, hq⟩ := rr_ne h hc
  have := (es_inv (e := (p, q)) hq j1 j2).2 k k1 k2
  have p0 : 0 < p.toNat := by omega
  refine ⟨j * k % p.toNat, this, ?_, rowP_mul h j2 k2⟩
  have := Nat.mod_lt (j * k) p0
  omega
theorem lik_refl {p : Int} {b : Row} (h : RR p b) (hp : 1 < p) : Lik p b b := ⟨1, Nat.le_refl _, by omega, (rowP_one h).symm⟩
theorem alike_refl {T : Tab} (hw : WF T) : Alike T T := ⟨rfl, rfl, fun m hm => lik_refl (wfm_rr (row_wf hw hm)) (by have := ps_of hw (mover_in hw hm); omega)⟩
theorem alike_symm {T R : Tab} (hw : WF T) (hv : WF R) (a : Alike T R) : Alike R T := ⟨a.ps.symm, a.wb.symm, fun m hm => by
  obtain ⟨hmt, _⟩ := web_rows hv hw a.wb.symm hm
  exact lik_symm (wfm_rr (row_wf hv hm)) (row_wf hv hm).ne (a.rw m hmt)⟩
theorem alike_trans {T R S : Tab} (hw : WF T) (hv : WF R) (hu : WF S) (a : Alike T R) (b : Alike R S) : Alike T S := ⟨a.ps.trans b.ps, a.wb.trans b.wb, fun m hm => by
  obtain ⟨hmr, _⟩ := web_rows hw hv a.wb hm
  obtain ⟨hms, _⟩ := web_rows hv hu b.wb hmr
  exact lik_trans (wfm_rr (row_wf hu hms)) (row_wf hu hms).ne (a.rw m hm) (b.rw m hmr)⟩
end Wa
set_option maxHeartbeats 4000000
/-! Plain laws: what a cut keeps. -/
namespace Wa
open PySem PySem.Spec PyProof.Rows L2
theorem web_cutM (T : Tab) (s : List Int) : web (cut T s) = (web T).filter fun e => decide (e.1 ∈ s) && decide (e.2 ∈ s) := by
  have go : ∀ ms : List (Int × Row), (cutRows ms s).flatMap (fun m => m.2.map fun q => (m.1, q.1)) = (ms.flatMap fun m => m.2.map fun q => (m.1, q.1)).filter fun e : Pr => decide (e.1 ∈ s) && decide (e.2 ∈ s) := fun ms => by
    induction ms with
    | nil => rfl
    | cons m ms ih =>
      have e : cutRows (m :: ms) s = (if (decide (m.1 ∈ s) && !decide ((m.2.filter fun e => decide (e.1 ∈ s)) = [])) = true then [(m.1, m.2.filter fun e => decide (e.1 ∈ s))] else []) ++ cutRows ms s := by
        unfold cutRows
        rw [List.map_cons, List.filter_cons]
        dsimp only
        split <;> rfl
      rw [e, List.flatMap_append, ih, List.flatMap_cons, List.filter_append]
      congr 1
      rw [List.filter_map]
      by_cases h : m.1 ∈ s
      · have f : ((fun e : Pr => decide (e.1 ∈ s) && decide (e.2 ∈ s)) ∘ fun q : Pr => (m.1, q.1)) = fun e : Pr => decide (e.1 ∈ s) := funext fun q => by
          show (decide (m.1 ∈ s) && decide (q.1 ∈ s)) = _
          rw [decide_eq_true h, Bool.true_and]
        rw [f]
        by_cases h2 : (m.2.filter fun e => decide (e.1 ∈ s)) = []
        · rw [if_neg (by rw [decide_eq_true h2]; simp), h2] <;> rfl
        · rw [if_pos (by rw [decide_eq_true h, decide_eq_false h2]; rfl), List.flatMap_cons, List.flatMap_nil, List.append_nil]
      · have f : ((fun e : Pr => decide (e.1 ∈ s) && decide (e.2 ∈ s)) ∘ fun q : Pr => (m.1, q.1)) = fun e : Pr => false := funext fun q => by
          show (decide (m.1 ∈ s) && decide (q.1 ∈ s)) = _
          rw [decide_eq_false h, Bool.false_and]
        rw [f, if_neg (by rw [decide_eq_false h]; simp), List.filter_eq_nil_iff.mpr (fun _ _ => Bool.false_ne_true)] <;> rfl
  exact go T.2
theorem cut_movers {T : Tab} (hw : WF T) {s : List Int} {m : Int} (h : m ∈ movers (cut T s)) : m ∈ movers T ∧ m ∈ s ∧ rowOf (cut T s) m = (rowOf T m).filter fun e => decide (e.1 ∈ s) := by
  obtain ⟨x, hx, rfl⟩ := List.mem_map.mp h
  have hx2 : x ∈ cutRows T.2 s := hx
  obtain ⟨h1, h2⟩ := List.mem_filter.mp hx2
  obtain ⟨m', hm', rfl⟩ := List.mem_map.mp h1
  have : m'.1 ∈ s ∧ ¬ (m'.2.filter fun e => decide (e.1 ∈ s)) = [] := by simpa using h2
  refine ⟨List.mem_map.mpr ⟨m', hm', rfl⟩, this.1, ?_⟩
  rw [rowOf_eq (wf_cut hw s) hx, rowOf_eq hw hm']
theorem movers_cut {T : Tab} (hw : WF T) {s : List Int} {m : Int} (hm : m ∈ movers T) (hs : m ∈ s) (hn : (rowOf T m).filter (fun e => decide (e.1 ∈ s)) ≠ []) : m ∈ movers (cut T s) := by
  refine List.mem_map.mpr ⟨(m, (rowOf T m).filter fun e => decide (e.1 ∈ s)), List.mem_filter.mpr ⟨List.mem_map.mpr ⟨_, rowOf_mem hm, rfl⟩, ?_⟩, rfl⟩
  rw [decide_eq_true hs, decide_eq_false hn] <;> rfl
theorem rowP_filter (b : Row) (k : Nat) (s : List Int) : (rowP b k).filter (fun e => decide (e.1 ∈ s)) = rowP (b.filter fun e => decide (e.1 ∈ s)) k := by
  unfold rowP
  rw [List.filter_map] <;> rfl
theorem alike_cut {T R : Tab} (hw : WF T) (hv : WF R) (a : Alike T R) (s : List Int) : Alike (cut T s) (cut R s) := by
  have wb : web (cut T s) = web (cut R s) := by rw [web_cutM, web_cutM, a.wb]
  refine ⟨?_, wb, fun m hm => ?_⟩
  · show T.1.filter _ = R.1.filter _
    rw [a.ps]
  · obtain ⟨h1, h2, h3⟩ := cut_movers hw hm
    obtain ⟨h4, _⟩ := web_rows (wf_cut hw s) (wf_cut hv s) wb hm
    obtain ⟨_, _, h5⟩ := cut_movers hv h4
    obtain ⟨k, k1, k2, hk⟩ := a.rw m h1
    exact ⟨k, k1, k2, by rw [h3, h5, hk, rowP_filter]⟩
/-- only what is in s counts -/
theorem cut_congr (T : Tab) {s t : List Int} (h : ∀ x ∈ T.1, (x ∈ s ↔ x ∈ t)) (hw : WF T) : cut T s = cut T t := by
  have d : ∀ x ∈ T.1, decide (x ∈ s) = decide (x ∈ t) := fun x hx => decide_eq_decide.mpr (h x hx)
  have e1 : T.1.filter (fun p => decide (p ∈ s)) = T.1.filter fun p => decide (p ∈ t) := List.filter_congr fun x hx => d x hx
  have e2 : (T.2.map fun m => (m.1, m.2.filter fun e => decide (e.1 ∈ s))) = T.2.map fun m => (m.1, m.2.filter fun e => decide (e.1 ∈ t)) := List.map_congr_left fun m hm => by
    rw [List.filter_congr fun x hx => d x.1 ((hw.mv m hm).ed x hx).1]
  unfold cut
  rw [e1, e2]
  congr 1
  refine List.filter_congr fun x hx => ?_
  obtain ⟨m, hm, rfl⟩ := List.mem_map.mp hx
  rw [d m.1 (hw.mv m hm).mi]
theorem outQ_congr {T : Tab} (hw : WF T) {s t : List Int} (h : ∀ x ∈ T.1, (x ∈ s ↔ x ∈ t)) : outQ T s = outQ T t := by
  have d : ∀ x ∈ T.1, decide (x ∈ s) = decide (x ∈ t) := fun x hx => decide_eq_decide.mpr (h x hx)
  unfold outQ
  refine congrArg _ (List.filter_congr fun e he => ?_)
  obtain ⟨m, hm, x, hx, rfl⟩ := mem_web.mp he
  rw [d _ (hw.mv m hm).mi, d _ ((hw.mv m hm).ed x hx).1]
/-- the program's and the law's count of a goal cut from a table of the same primes -/
theorem api_many {T U : Tab} (hw : WF T) (hu : WF U) (e : U.1 = T.1) (s : List Int) : apiM T (cut U s) = manyL T (cut U s) := by
  have sub : (cut U s).1.all (fun p => decide (p ∈ T.1)) = true := List.all_eq_true.mpr fun p hp => decide_eq_true (by rw [← e]; exact (List.mem_filter.mp hp).1)
  unfold apiM manyL likeM
  rw [sub, Bool.true_and, ali_same (wf_cut hw _) (wf_cut hu s), outM_eq hw]
end Wa
set_option maxHeartbeats 4000000
/-! Plain laws: pairs in a row tell all; goals of up to three primes tell all. -/
namespace Wa
open PySem PySem.Spec PyProof.Rows L2
def codeE (e : Pr) : Int := 100 * e.1 + e.2
theorem web_bd {T : Tab} (hw : WF T) {e : Pr} (he : e ∈ web T) : 2 ≤ e.1 ∧ e.1 ≤ 31 ∧ 2 ≤ e.2 ∧ e.2 ≤ 31 ∧ e.1 ∈ T.1 ∧ e.2 ∈ T.1 := by
  obtain ⟨m, hm, x, hx, rfl⟩ := mem_web.mp he
  have a := (hw.mv m hm).mi
  have b := ((hw.mv m hm).ed x hx).1
  have a2 := ps_of hw a
  have b2 := ps_of hw b
  exact ⟨a2.1, a2.2, b2.1, b2.2, a, b⟩
theorem web_sorted {T : Tab} (hw : WF T) : ((web T).map codeE).Pairwise (· < ·) := by
  have go : ∀ ms : List (Int × Row), (ms.map (·.1)).Pairwise (· < ·) → (∀ m ∈ ms, (m.2.map (·.1)).Pairwise (· < ·) ∧ ∀ e ∈ m.2, 2 ≤ e.1 ∧ e.1 ≤ 31) → ((ms.flatMap fun m => m.2.map fun q => (m.1, q.1)).map codeE).Pairwise (· < ·) := fun ms => by
    induction ms with
    | nil => exact fun _ _ => List.Pairwise.nil
    | cons m ms ih =>
      intro hs hm
      rw [List.map_cons, List.pairwise_cons] at hs
      rw [List.flatMap_cons, List.map_append, List.pairwise_append]
      obtain ⟨h1, h2⟩ := hm m List.mem_cons_self
      refine ⟨?_, ih hs.2 fun x hx => hm x (List.mem_cons_of_mem _ hx), ?_⟩
      · rw [List.map_map]
        rw [List.pairwise_map] at h1 ⊢
        refine h1.imp fun {a b} h => ?_
        show 100 * m.1 + a.1 < 100 * m.1 + b.1
        omega
      · intro a ha b hb
        obtain ⟨e, he, rfl⟩ := List.mem_map.mp ha
        obtain ⟨x, hx, rfl⟩ := List.mem_map.mp he
        obtain ⟨e', he', rfl⟩ := List.mem_map.mp hb
        obtain ⟨m', hm', he2⟩ := List.mem_flatMap.mp he'
        obtain ⟨x', hx', rfl⟩ := List.mem_map.mp he2
        have b1 := h2 x hx
        have b2 := (hm m' (List.mem_cons_of_mem _ hm')).2 x' hx'
        have b3 : m.1 < m'.1 := hs.1 m'.1 (List.mem_map.mpr ⟨m', hm', rfl⟩)
        show 100 * m.1 + x.1 < 100 * m'.1 + x'.1
        omega
  exact go T.2 hw.ms fun m hm => ⟨(hw.mv m hm).so, fun e he => ps_of hw ((hw.mv m hm).ed e he).1⟩
theorem web_ext {T R : Tab} (hw : WF T) (hv : WF R) (h : ∀ e : Pr, e ∈ web T ↔ e ∈ web R) : web T = web R := by
  have e1 : (web T).map codeE = (web R).map codeE := by
    refine sorted_same (web_sorted hw) (web_sorted hv) fun k => ?_
    rw [List.mem_map, List.mem_map]
    exact ⟨fun ⟨e, he, q⟩ => ⟨e, (h e).mp he, q⟩, fun ⟨e, he, q⟩ => ⟨e, (h e).mpr he, q⟩⟩
  have inj : ∀ (xs ys : List Pr), (∀ e ∈ xs, 2 ≤ e.1 ∧ e.1 ≤ 31 ∧ 2 ≤ e.2 ∧ e.2 ≤ 31) → (∀ e ∈ ys, 2 ≤ e.1 ∧ e.1 ≤ 31 ∧ 2 ≤ e.2 ∧ e.2 ≤ 31) → xs.map codeE = ys.map codeE → xs = ys := fun xs => by
    induction xs with
    | nil =>
      intro ys _ _ q
      exact (List.map_eq_nil_iff.mp q.symm).symm
    | cons x xs ih =>
      intro ys h1 h2 q
      cases ys with
      | nil => cases q
      | cons y ys =>
        obtain ⟨q1, q2⟩ := List.cons.inj q
        have a := h1 x List.mem_cons_self
        have b := h2 y List.mem_cons_self
        have q1 : 100 * x.1 + x.2 = 100 * y.1 + y.2 := q1
        rw [ih ys (fun e he => h1 e (List.mem_cons_of_mem _ he)) (fun e he => h2 e (List.mem_cons_of_mem _ he)) q2, Prod.ext (show x.1 = y.1 by omega) (show x.2 = y.2 by omega)]
  exact inj _ _ (fun e he => by obtain ⟨a, b, c, d, _⟩ := web_bd hw he; exact ⟨a, b, c, d⟩) (fun e he => by obtain ⟨a, b, c, d, _⟩ := web_bd hv he; exact ⟨a, b, c, d⟩) e1
/-- if the first root of each row, with each other, is a power, the row is -/
theorem pairs_alike {T R : Tab} (hw : WF T) (hv : WF R) (hp : T.1 = R.1) (hwe : web T = web R) (h : ∀ m ∈ movers T, ∀ j, j < (rowOf T m).length → Alike (cut T (trio (m, rowOf T m) j 0)) (cut R (trio (m, rowOf T m) j 0))) : Alike T R := by
  refine ⟨hp, hwe, fun m hm => ?_⟩
  obtain ⟨hmr, hqs⟩ := web_rows hw hv hwe hm
  have wt := row_wf hw hm
  have wr := row_wf hv hmr
  have rr := wfm_rr wr
  have m2 := ps_of hw (mover_in hw hm)
  have lenE : (rowOf T m).length = (rowOf R m).length := by
    have := congrArg List.length hqs
    rwa [List.length_map, List.length_map] at this
  have len0 : 0 < (rowOf T m).length := List.length_pos_iff.mpr wt.ne
  -- one power for the entry j and the first
  have one : ∀ j, j < (rowOf T m).length → ∃ k : Nat, 1 ≤ k ∧ (k : Int) < m ∧ ∀ i, i = j ∨ i = 0 → ∀ (a b : Pr), (rowOf T m)[i]? = some a → (rowOf R m)[i]? = some b → a = (b.1, upM b.2 k b.1) := fun j hj => by
    have al := h m hm j hj
    have inT : ∀ i, i = j ∨ i = 0 → ∀ a : Pr, (rowOf T m)[i]? = some a → a.1 ∈ trio (m, rowOf T m) j 0 := fun i hi a ha => by
      refine mem_sortU.mpr ?_
      rcases hi with rfl | rfl
      · rw [show ((m, rowOf T m).2.getD i (0, 0)) = a from by rw [List.getD_eq_getElem?_getD, ha] <;> rfl]
        exact List.mem_cons_of_mem _ List.mem_cons_self
      · rw [show ((m, rowOf T m).2.getD 0 (0, 0)) = a from by rw [List.getD_eq_getElem?_getD, ha] <;> rfl]
        exact List.mem_cons_of_mem _ (List.mem_cons_of_mem _ List.mem_cons_self)
    have ms : m ∈ trio (m, rowOf T m) j 0 := mem_sortU.mpr List.mem_cons_self
    have a0 : (rowOf T m)[0]? = some (rowOf T m)[0] := List.getElem?_eq_getElem len0
    have hmc : m ∈ movers (cut T (trio (m, rowOf T m) j 0)) := movers_cut hw hm ms fun hn => by
      have : (rowOf T m)[0] ∈ (rowOf T m).filter fun e => decide (e.1 ∈ trio (m, rowOf T m) j 0) := List.mem_filter.mpr ⟨mem_at a0, decide_eq_true (inT 0 (.inr rfl) _ a0)⟩
      rw [hn] at this
      cases this
    obtain ⟨k, k1, k2, hk⟩ := al.rw m hmc
    obtain ⟨_, _, e1⟩ := cut_movers hw hmc
    obtain ⟨hmc2, _⟩ := web_rows (wf_cut hw _) (wf_cut hv _) al.wb hmc
    obtain ⟨_, _, e2⟩ := cut_movers hv hmc2
    rw [e1, e2] at hk
    refine ⟨k, k1, k2, fun i hi a b ha hb => ?_⟩
    have ab : a.1 = b.1 := by
      have := congrArg (fun l : List Int => l[i]?) hqs
      simp only [List.getElem?_map, ha, hb, Option.map_some, Option.some.injEq] at this
      exact this
    have aS := inT i hi a ha
    have am : a ∈ (rowOf T m).filter fun e => decide (e.1 ∈ trio (m, rowOf T m) j 0) := List.mem_filter.mpr ⟨mem_at ha, decide_eq_true aS⟩
    rw [hk] at am
    obtain ⟨b', hb', e3⟩ := List.mem_map.mp am
    have hb2 := (List.mem_filter.mp hb').1
    have f1 := find_at wr.so hb2
    have f2 := find_at wr.so (mem_at hb)
    have e4 := congrArg Prod.fst e3
    have e4 : b'.1 = a.1 := e4
    rw [e4, ab] at f1
    rw [f1] at f2
    cases f2
    exact e3.symm
  obtain ⟨k, k1, k2, hk⟩ := one 0 len0
  refine ⟨k, k1, k2, List.ext_getElem? fun i => ?_⟩
  by_cases hi : i < (rowOf T m).length
  · have ha : (rowOf T m)[i]? = some (rowOf T m)[i] := List.getElem?_eq_getElem hi
    have hb : (rowOf R m)[i]? = some ((rowOf R m)[i]'(by omega)) := List.getElem?_eq_getElem (by omega)
    have a0 : (rowOf T m)[0]? = some (rowOf T m)[0] := List.getElem?_eq_getElem len0
    have b0 : (rowOf R m)[0]? = some ((rowOf R m)[0]'(by omega)) := List.getElem?_eq_getElem (by omega)
    obtain ⟨j, j1, j2, hj⟩ := one i hi
    have x0 := hk 0 (.inl rfl) _ _ a0 b0
    have y0 := hj 0 (.inr rfl) _ _ a0 b0
    have z := hj i (.inl rfl) _ _ ha hb
    have rb := rr _ (mem_at b0)
    have kj : k = j := es_inj (e := (m, ((rowOf R m)[0]'(by omega)).1)) rb.1 rb.2 k2 j2 (by rw [x0] at y0; exact congrArg Prod.snd y0)
    subst kj
    unfold rowP
    rw [List.getElem?_map, ha, hb, z] <;> rfl
  · rw [List.getElem?_eq_none (by omega), List.getElem?_eq_none (by unfold rowP; rw [List.length_map]; omega)]
end Wa
set_option maxHeartbeats 4000000
/-! Plain laws: the law's checks on pairs and on goals come out right. -/
namespace Wa
open PySem PySem.Spec PyProof.Rows L2
theorem pair_on {T R : Tab} (hw : WF T) (hv : WF R) (hp : T.1 = R.1) : (decide (web T = web R) && (T.2.flatMap trios).all (pairM T R)) = aliL T R := by
  rw [Bool.eq_iff_iff, aliL_iff hw hv, Bool.and_eq_true, decide_eq_true_eq, List.all_eq_true]
  constructor
  · rintro ⟨h1, h2⟩
    refine pairs_alike hw hv hp h1 fun m hm j hj => ?_
    refine (aliM_iff (wf_cut hw _) (wf_cut hv _)).mp (h2 _ (List.mem_flatMap.mpr ⟨_, rowOf_mem hm, List.mem_flatMap.mpr ⟨j, List.mem_range.mpr hj, List.mem_map.mpr ⟨0, List.mem_range.mpr (by omega), rfl⟩⟩⟩))
  · intro a
    exact ⟨a.wb, fun s _ => (aliM_iff (wf_cut hw _) (wf_cut hv _)).mpr (alike_cut hw hv a s)⟩
theorem threes_mem {T R g : Tab} : g ∈ threesM T R ↔ ∃ s ∈ sub3 T.1, g = cut T s ∨ g = cut R s := by
  have one : ∀ (acc : List Tab) (x : Tab), g ∈ addN acc x ↔ g ∈ acc ∨ g = x := fun acc x => by
    unfold addN
    split
    · rename_i h
      exact ⟨.inl, fun q => q.elim id fun e => e ▸ h⟩
    · rw [List.mem_append, List.mem_singleton]
  have go : ∀ (ss : List (List Int)) (acc : List Tab), g ∈ ss.foldl (addB T R) acc ↔ g ∈ acc ∨ ∃ s ∈ ss, g = cut T s ∨ g = cut R s := fun ss => by
    induction ss with
    | nil => exact fun acc => ⟨.inl, fun h => h.elim id fun ⟨s, hs, _⟩ => absurd hs List.not_mem_nil⟩
    | cons s ss ih =>
      intro acc
      rw [List.foldl_cons, ih]
      unfold addB
      rw [one, one]
      constructor
      · rintro (((h | h) | h) | ⟨t, ht, h⟩)
        · exact .inl h
        · exact .inr ⟨s, List.mem_cons_self, .inl h⟩
        · exact .inr ⟨s, List.mem_cons_self, .inr h⟩
        · exact .inr ⟨t, List.mem_cons_of_mem _ ht, h⟩
      · rintro (h | ⟨t, ht, h⟩)
        · exact .inl (.inl (.inl h))
        · rcases List.mem_cons.mp ht with rfl | ht
          · rcases h with h | h
            · exact .inl (.inl (.inr h))
            · exact .inl (.inr h)
          · exact .inr ⟨t, ht, h⟩
  unfold threesM
  rw [go]
  exact ⟨fun h => h.elim (fun q => absurd q List.not_mem_nil) id, .inr⟩
theorem threes_len {T R : Tab} (hw : WF T) : (threesM T R).length ≤ 64 := by
  have go : ∀ (ss : List (List Int)) (acc : List Tab), (ss.foldl (addB T R) acc).length ≤ acc.length + 2 * ss.length := fun ss => by
    induction ss with
    | nil => exact fun acc => Nat.le_refl _
    | cons s ss ih =>
      intro acc
      rw [List.foldl_cons, List.length_cons]
      have a := ih (addB T R acc s)
      have b := addN_len (addN acc (cut T s)) (cut R s)
      have c := addN_len acc (cut T s)
      unfold addB at a ⊢
      omega
  have a := go (sub3 T.1) []
  have b := sub3_len T.1
  have c : 2 ^ T.1.length ≤ 2 ^ 5 := Nat.pow_le_pow_right (by decide) hw.pl
  have z : ([] : List Tab).length = 0 := rfl
  unfold threesM
  omega
theorem sub3_all : ∀ (n : Nat) (ns s : List Int), ns.length = n → s.Sublist ns → s.length ≤ 3 → s ∈ sub3 ns
  | 0, ns, s, hn, hs, _ => by
    have : ns = [] := List.eq_nil_of_length_eq_zero hn
    subst this
    rw [List.sublist_nil.mp hs]
    exact List.mem_cons_self
  | n + 1, ns, s, hn, hs, h3 => by
    have hne : ns ≠ [] := fun h => by rw [h] at hn; cases hn
    have e := List.dropLast_concat_getLast hne
    rw [← e] at hs ⊢
    obtain ⟨s1, s2, rfl, h1, h2⟩ := List.sublist_append_iff.mp hs
    rw [sub3_snoc]
    have hl : ns.dropLast.length = n := by rw [List.length_dropLast]; omega
    rw [List.length_append] at h3
    have ih := sub3_all n ns.dropLast s1 hl h1 (by omega)
    match s2, h2 with
    | [], _ =>
      rw [List.append_nil]
      exact List.mem_append_left _ ih
    | [x], h2 =>
      have hx : x = ns.getLast hne := by
        have := h2.subset List.mem_cons_self
        exact List.mem_singleton.mp this
      subst hx
      have : s1.length < 3 := by
        have : [ns.getLast hne].length = 1 := rfl
        omega
      exact List.mem_append_right _ (List.mem_map.mpr ⟨s1, List.mem_filter.mpr ⟨ih, decide_eq_true this⟩, rfl⟩)
    | x :: y :: s2, h2 =>
      have := h2.length_le
      rw [List.length_cons, List.length_cons] at this
      exact absurd this (by show ¬ _ ≤ 1; omega)
/-- a sorted choice of T's primes -/
theorem choice {T : Tab} (hw : WF T) {s : List Int} (hs : s.Pairwise (· < ·)) (h : ∀ x ∈ s, x ∈ T.1) (hl : s.length ≤ 3) : s ∈ sub3 T.1 := by
  have e : s = T.1.filter fun p => decide (p ∈ s) := sorted_same hs (hw.ps.sublist List.filter_sublist) fun k => by
    rw [List.mem_filter, decide_eq_true_eq]
    exact ⟨fun hk => ⟨h k hk, hk⟩, fun hk => hk.2⟩
  exact sub3_all _ T.1 s rfl (by rw [e]; exact List.filter_sublist) hl
theorem insU_len (k : Int) (ys : List Int) : (insU k ys).length ≤ ys.length + 1 := by
  induction ys with
  | nil => exact Nat.le_refl _
  | cons y ys ih =>
    unfold insU
    split
    · exact Nat.le_refl _
    · split
      · exact Nat.le_succ _
      · exact Nat.succ_le_succ ih
theorem sortU_len (xs : List Int) : (sortU xs).length ≤ xs.length := by
  induction xs with
  | nil => exact Nat.le_refl _
  | cons x xs ih =>
    have := insU_len x (sortU xs)
    have e : sortU (x :: xs) = insU x (sortU xs) := rfl
    rw [e, List.length_cons]
    omega
theorem many_self {T : Tab} (hw : WF T) (s : List Int) : 1 ≤ manyL T (cut T s) := by
  have e : cut T (cut T s).1 = cut T s := cut_congr T (fun x hx => by
    show x ∈ T.1.filter _ ↔ _
    rw [List.mem_filter, decide_eq_true_eq]
    exact ⟨fun h => h.2, fun h => ⟨hx, h⟩⟩) hw
  unfold manyL
  rw [e, if_pos ((aliL_iff (wf_cut hw s) (wf_cut hw s)).mpr (alike_refl (wf_cut hw s)))]
  exact (prodI_sub (List.Sublist.refl _) fun y hy => by have := outQ_ps hw y (mem_sortU.mp hy); omega).2
theorem told_on {T R : Tab} (hw : WF T) (hv : WF R) (hp : T.1 = R.1) : decide ((((threesM T R).map fun g => (apiM T g, apiM R g)).filter fun p => !decide (p.1 = p.2)) = []) = aliL T R := by
  rw [Bool.eq_iff_iff, aliL_iff hw hv, decide_eq_true_eq, List.filter_eq_nil_iff]
  have api : ∀ g ∈ threesM T R, apiM T g = manyL T g ∧ apiM R g = manyL R g ∧ WF g ∧ ∀ x ∈ g.1, x ∈ T.1 := fun g hg => by
    obtain ⟨s, _, rfl | rfl⟩ := threes_mem.mp hg
    · exact ⟨api_many hw hw rfl s, api_many hv hw hp s, wf_cut hw s, fun x hx => (List.mem_filter.mp hx).1⟩
    · exact ⟨api_many hw hv hp.symm s, api_many hv hv rfl s, wf_cut hv s, fun x hx => by rw [hp]; exact (List.mem_filter.mp hx).1⟩
  constructor
  · intro h
    have eq : ∀ g ∈ threesM T R, apiM T g = apiM R g := fun g hg => by
      have := h _ (List.mem_map.mpr ⟨g, hg, rfl⟩)
      simpa using this
    have al : ∀ s ∈ sub3 T.1, Alike (cut T s) (cut R s) := fun s hs => by
      have hg : cut T s ∈ threesM T R := threes_mem.mpr ⟨s, hs, .inl rfl⟩
      obtain ⟨a1, a2, _⟩ := api _ hg
      have a3 := eq _ hg
      have a4 := many_self hw s
      rw [← a1, a3, a2] at a4
      have e : cut R (cut T s).1 = cut R s := cut_congr R (fun x hx => by
        show x ∈ T.1.filter _ ↔ _
        rw [hp, List.mem_filter, decide_eq_true_eq]
        exact ⟨fun h => h.2, fun h => ⟨hx, h⟩⟩) hv
      unfold manyL at a4
      rw [e] at a4
      split at a4
      · rename_i h5
        exact alike_symm (wf_cut hv s) (wf_cut hw s) ((aliL_iff (wf_cut hv s) (wf_cut hw s)).mp h5)
      · omega
    have wb : web T = web R := web_ext hw hv fun e => by
      have both : ∀ (e1 : e.1 ∈ T.1) (e2 : e.2 ∈ T.1), e ∈ web T ↔ e ∈ web R := fun e1 e2 => by
        have hs : sortU [e.1, e.2] ∈ sub3 T.1 := choice hw (sortU_sorted _) (fun x hx => by
          have := mem_sortU.mp hx
          simp only [List.mem_cons, List.not_mem_nil, or_false] at this
          rcases this with rfl | rfl
          · exact e1
          · exact e2) (by have := sortU_len [e.1, e.2]; have z : [e.1, e.2].length = 2 := rfl; omega)
        have w := (al _ hs).wb
        rw [web_cutM, web_cutM] at w
        have m1 : e.1 ∈ sortU [e.1, e.2] := mem_sortU.mpr List.mem_cons_self
        have m2 : e.2 ∈ sortU [e.1, e.2] := mem_sortU.mpr (List.mem_cons_of_mem _ List.mem_cons_self)
        have tt : (decide (e.1 ∈ sortU [e.1, e.2]) && decide (e.2 ∈ sortU [e.1, e.2])) = true := by rw [decide_eq_true m1, decide_eq_true m2] <;> rfl
        constructor
        · intro h6
          have : e ∈ (web T).filter fun e' => decide (e'.1 ∈ sortU [e.1, e.2]) && decide (e'.2 ∈ sortU [e.1, e.2]) := List.mem_filter.mpr ⟨h6, tt⟩
          rw [w] at this
          exact (List.mem_filter.mp this).1
        · intro h6
          have : e ∈ (web R).filter fun e' => decide (e'.1 ∈ sortU [e.1, e.2]) && decide (e'.2 ∈ sortU [e.1, e.2]) := List.mem_filter.mpr ⟨h6, tt⟩
          rw [← w] at this
          exact (List.mem_filter.mp this).1
      constructor
      · intro h6
        obtain ⟨_, _, _, _, b1, b2⟩ := web_bd hw h6
        exact (both b1 b2).mp h6
      · intro h6
        obtain ⟨_, _, _, _, b1, b2⟩ := web_bd hv h6
        exact (both (by rw [hp]; exact b1) (by rw [hp]; exact b2)).mpr h6
    refine pairs_alike hw hv hp wb fun m hm j hj => al _ ?_
    have am := trio_among hw (rowOf_mem hm) hj (show 0 < ((m, rowOf T m).2).length by show 0 < (rowOf T m).length; omega)
    refine choice hw am.so am.su ?_
    have := sortU_len [m, ((m, rowOf T m).2.getD j (0, 0)).1, ((m, rowOf T m).2.getD 0 (0, 0)).1]
    exact this
  · intro a p hp2
    obtain ⟨g, hg, rfl⟩ := List.mem_map.mp hp2
    obtain ⟨a1, a2, gw, gs⟩ := api g hg
    have oq : outQ T g.1 = outQ R g.1 := by
      unfold outQ
      rw [a.wb]
    have li : aliL (cut T g.1) g = aliL (cut R g.1) g := by
      rw [Bool.eq_iff_iff, aliL_iff (wf_cut hw _) gw, aliL_iff (wf_cut hv _) gw]
      have c := alike_cut hw hv a g.1
      exact ⟨fun h => alike_trans (wf_cut hv _) (wf_cut hw _) gw (alike_symm (wf_cut hw _) (wf_cut hv _) c) h, fun h => alike_trans (wf_cut hw _) (wf_cut hv _) gw c h⟩
    have : apiM T g = apiM R g := by
      rw [a1, a2]
      unfold manyL
      rw [li, oq]
    simp [this]
end Wa
set_option maxHeartbeats 4000000
/-! Plain laws: what is shown is short. -/
namespace Wa
open PySem PySem.Spec PyProof.Rows L2
structure Sm (d : D) (W n : Nat) : Prop where
  nd : d.nd = true
  sh : d.py.showable = true
  cl : d.py.canLay0 = true
  is : d.py.intsShort 101 = true
  we : d.py.weight ≤ W
  dp : d.py.depth ≤ n
structure SmA (ds : List D) (W n : Nat) : Prop where
  nd : ndL ds = true
  sh : PyData.showableAll (pyL ds) = true
  cl : PyData.canLayAll0 (pyL ds) = true
  is : PyData.intsShortAll 101 (pyL ds) = true
  we : PyData.weightAll (pyL ds) ≤ ds.length * (W + 1)
  dp : PyData.depthAll (pyL ds) ≤ n
theorem sm_int {i : Int} (h : i.natAbs < 2 ^ 300) : Sm (.int i) 400 0 := by
  have hl : i.natAbs.log2 < 300 := PySem.Flt.log2_lt_of (by decide) h
  refine ⟨by rw [D.nd] <;> nofun, ?_, ?_, ?_, ?_, ?_⟩
  · rw [py_int, PyData.showable]
    exact decide_eq_true (by omega)
  · rw [py_int, PyData.canLay0]
  · rw [py_int, PyData.intsShort]
    have e : (toString i).length ≤ 101 := int_text_length_le10 (k := 100) (by decide) (Nat.lt_trans h (by decide))
    refine decide_eq_true ?_
    show (Str.ofString (toString i)).length ≤ 101
    rw [PySem.ofString_length]
    exact e
  · rw [py_int, PyData.weight]
    split
    · omega
    · omega
  · rw [py_int, PyData.depth] <;> exact Nat.le_refl _
theorem smA {W n : Nat} : ∀ {ds : List D}, (∀ d ∈ ds, Sm d W n) → SmA ds W n
  | [], _ => ⟨by rw [ndL], by rw [pyL, PyData.showableAll], by rw [pyL, PyData.canLayAll0], by rw [pyL, PyData.intsShortAll], by rw [pyL, PyData.weightAll]; omega, by rw [pyL, PyData.depthAll]; omega⟩
  | d :: ds, h => by
    have a := h d List.mem_cons_self
    have b := smA fun x hx => h x (List.mem_cons_of_mem _ hx)
    refine ⟨by rw [ndL, a.nd, b.nd] <;> rfl, by rw [pyL, PyData.showableAll, a.sh, b.sh] <;> rfl, by rw [pyL, PyData.canLayAll0, a.cl, b.cl] <;> rfl, by rw [pyL, PyData.intsShortAll, a.is, b.is] <;> rfl, ?_, ?_⟩
    · rw [pyL, PyData.weightAll, List.length_cons, Nat.succ_mul]
      have := a.we
      have := b.we
      omega
    · rw [pyL, PyData.depthAll]
      have := a.dp
      have := b.dp
      omega
theorem sm_tup {W n : Nat} {ds : List D} (h : ∀ d ∈ ds, Sm d W n) : Sm (.tup ds) (ds.length * (W + 1)) (n + 1) := by
  have a := smA h
  refine ⟨by rw [D.nd, a.nd], by rw [D.py, PyData.showable, a.sh], by rw [D.py, PyData.canLay0, a.cl], by rw [D.py, PyData.intsShort, a.is], by rw [D.py, PyData.weight]; exact a.we, by rw [D.py, PyData.depth]; have := a.dp; omega⟩
theorem sm_tuf {W n : Nat} {ds : List D} (h : ∀ d ∈ ds, Sm d W n) : Sm (.tuf ds) (ds.length * (W + 1)) (n + 1) := by
  have a := smA h
  refine ⟨by rw [D.nd, a.nd], by rw [D.py, PyData.showable, a.sh], by rw [D.py, PyData.canLay0, a.cl], by rw [D.py, PyData.intsShort, a.is], by rw [D.py, PyData.weight]; exact a.we, by rw [D.py, PyData.depth]; have := a.dp; omega⟩
theorem sm_lst {W n : Nat} {ds : List D} (h : ∀ d ∈ ds, Sm d W n) : Sm (.lst ds) (ds.length * (W + 1)) (n + 1) := by
  have a := smA h
  refine ⟨by rw [D.nd, a.nd], by rw [D.py, PyData.showable, a.sh], by rw [D.py, PyData.canLay0, a.cl], by rw [D.py, PyData.intsShort, a.is], by rw [D.py, PyData.weight]; exact a.we, by rw [D.py, PyData.depth]; have := a.dp; omega⟩
theorem ro_lst {W n : Nat} {ds : List D} (h : ∀ d ∈ ds, Sm d W n) (hn : n + 1 ≤ 60) (hw : ds.length * (W + 1) ≤ 100000) : RO (.lst ds) := by
  have a := sm_lst h
  refine ⟨a.nd, by rw [D.py] <;> rfl, a.sh, PyData.hasDict_of_canLay _ a.cl, Nat.le_trans a.dp hn, ?_⟩
  have b := PyData.shown_le 101 (by decide) _ (PyData.leavesShort_of_canLay0 101 _ a.cl a.is)
  have c := a.we
  rw [sizeLine_eq]
  omega
end Wa
set_option maxHeartbeats 4000000
/-! Plain laws: the texts of the law's checks are short; ToldOk and PairOk. -/
namespace Wa
open PySem PySem.Spec PyProof.Rows L2
theorem sm_bl (b : Bool) : Sm (.bl b) 0 0 := by
  have e : (D.bl b).py = .bool b := by rw [D.py]
  refine ⟨by rw [D.nd] <;> nofun, by rw [e, PyData.showable], by rw [e, PyData.canLay0], by rw [e, PyData.intsShort], by rw [e, PyData.weight] <;> exact Nat.le_refl _, by rw [e, PyData.depth] <;> exact Nat.le_refl _⟩
theorem Sm.up {d : D} {W n W' n' : Nat} (h : Sm d W n) (hw : W ≤ W') (hn : n ≤ n') : Sm d W' n' := ⟨h.nd, h.sh, h.cl, h.is, Nat.le_trans h.we hw, Nat.le_trans h.dp hn⟩
theorem sm_small {i : Int} (h : 0 ≤ i ∧ i < 100000000) : Sm (.int i) 400 0 := sm_int (Nat.lt_trans (show i.natAbs < 100000000 by omega) (by decide))
theorem sm_pr {p : Int × Int} (h1 : 0 ≤ p.1 ∧ p.1 < 100000000) (h2 : 0 ≤ p.2 ∧ p.2 < 100000000) : Sm (dPr p) 802 1 := by
  refine (sm_tup (W := 400) (n := 0) (ds := [.int p.1, .int p.2]) fun d hd => ?_).up (by show 2 * 401 ≤ 802; decide) (Nat.le_refl _)
  simp only [List.mem_cons, List.not_mem_nil, or_false] at hd
  rcases hd with rfl | rfl
  · exact sm_small h1
  · exact sm_small h2
theorem sm_tab {T : Tab} (hw : WF T) : Sm (dTab T) 60000 5 := by
  have sF : Sm (dFI T.1) 2005 1 := by
    refine (sm_tuf (W := 400) (n := 0) (ds := T.1.map D.int) fun d hd => ?_).up ?_ (Nat.le_refl _)
    · obtain ⟨p, hp, rfl⟩ := List.mem_map.mp hd
      have := ps_of hw hp
      exact sm_small (by omega)
    · rw [List.length_map]
      have := hw.pl
      omega
  have sR : ∀ m ∈ T.2, Sm (dMv m) 10000 3 := fun m hm => by
    have wm := hw.mv m hm
    have m2 := ps_of hw wm.mi
    have a : Sm (dRow m.2) 4015 2 := by
      refine (sm_tuf (W := 802) (n := 1) (ds := m.2.map dPr) fun d hd => ?_).up ?_ (Nat.le_refl _)
      · obtain ⟨e, he, rfl⟩ := List.mem_map.mp hd
        obtain ⟨h1, _, h3, h4, _⟩ := wm.ed e he
        have := ps_of hw h1
        exact sm_pr (by omega) (by omega)
      · rw [List.length_map]
        have := wm.ln
        omega
    refine (sm_tup (W := 4015) (n := 2) (ds := [.int m.1, dRow m.2]) fun d hd => ?_).up (by show 2 * 4016 ≤ 10000; decide) (Nat.le_refl _)
    simp only [List.mem_cons, List.not_mem_nil, or_false] at hd
    rcases hd with rfl | rfl
    · exact (sm_small (by omega)).up (by decide) (by decide)
    · exact a
  have sM : Sm (.tuf (T.2.map dMv)) 50005 4 := by
    refine (sm_tuf (W := 10000) (n := 3) (ds := T.2.map dMv) fun d hd => ?_).up ?_ (Nat.le_refl _)
    · obtain ⟨m, hm, rfl⟩ := List.mem_map.mp hd
      exact sR m hm
    · rw [List.length_map]
      have := hw.ml
      omega
  have t := smA (W := 50005) (n := 4) (ds := [dFI T.1, .tuf (T.2.map dMv)]) fun d hd => by
    simp only [List.mem_cons, List.not_mem_nil, or_false] at hd
    rcases hd with rfl | rfl
    · exact sF.up (by decide) (by decide)
    · exact sM
  refine ⟨by rw [D.nd, t.nd], by rw [D.py, PyData.showable, t.sh], by rw [D.py, PyData.canLay0, t.cl], by rw [D.py, PyData.intsShort, t.is], ?_, by rw [D.py, PyData.depth]; have := t.dp; omega⟩
  rw [D.py, PyData.weight, pyL, pyL, pyL, PyData.weightAll, PyData.weightAll, PyData.weightAll]
  have := sF.we
  have := sM.we
  omega
theorem api_bd {T : Tab} (hw : WF T) (g : Tab) : 0 ≤ apiM T g ∧ apiM T g < 100000000 := by
  unfold apiM
  split
  · have := prodI_bd (outM T g.1) (out_ps hw) (Nat.le_trans (List.length_filter_le _ _) hw.pl)
    omega
  · omega
theorem told_ok {T R : Tab} (hw : WF T) (hv : WF R) (hp : T.1 = R.1) : ToldOk T R := by
  refine ⟨fun g hg => ?_, threes_len hw, fun g hg => ?_, fun g hg => ?_, told_on hw hv hp, ali_same hw hv, ?_, fun b c => ?_⟩
  · obtain ⟨s, _, rfl | rfl⟩ := threes_mem.mp hg
    · exact wf_cut hw s
    · exact wf_cut hv s
  · obtain ⟨s, _, rfl | rfl⟩ := threes_mem.mp hg
    · exact api_many hw hw rfl s
    · exact api_many hw hv hp.symm s
  · obtain ⟨s, _, rfl | rfl⟩ := threes_mem.mp hg
    · exact api_many hv hw hp s
    · exact api_many hv hv rfl s
  · refine ro_lst (W := 802) (n := 1) (fun d hd => ?_) (by decide) ?_
    · obtain ⟨p, hp2, rfl⟩ := List.mem_map.mp hd
      obtain ⟨g, hg, rfl⟩ := List.mem_map.mp hp2
      exact sm_pr (api_bd hw g) (api_bd hv g)
    · rw [List.length_map, List.length_map]
      have := threes_len (R := R) hw
      omega
  · refine ro_lst (W := 0) (n := 0) (fun d hd => ?_) (by decide) (by show 2 * 1 ≤ 100000; decide)
    simp only [List.mem_cons, List.not_mem_nil, or_false] at hd
    rcases hd with rfl | rfl
    · exact sm_bl _
    · exact sm_bl _
theorem pair_ok {T R : Tab} (hw : WF T) (hv : WF R) (hp : T.1 = R.1) : PairOk T R := by
  refine ⟨pair_on hw hv hp, fun s => ?_, hp⟩
  have l : ([cut T s, cut R s].map dTab).length * (60000 + 1) ≤ 2 * 60001 := Nat.le_refl _
  have a := smA (W := 60000) (n := 5) (ds := [cut T s, cut R s].map dTab) fun d hd => by
    obtain ⟨U, hU, rfl⟩ := List.mem_map.mp hd
    simp only [List.mem_cons, List.not_mem_nil, or_false] at hU
    rcases hU with rfl | rfl
    · exact sm_tab (wf_cut hw s)
    · exact sm_tab (wf_cut hv s)
  refine ⟨by rw [D.nd, a.nd], by rw [D.py] <;> rfl, by rw [D.py, PyData.showable, a.sh], ?_, by rw [D.py, PyData.depth]; have := a.dp; omega, ?_⟩
  · exact PyData.hasDict_of_canLay _ (by rw [D.py, PyData.canLay0, a.cl])
  · have b := PyData.shown_le 101 (by decide) (D.lst ([cut T s, cut R s].map dTab)).py (PyData.leavesShort_of_canLay0 101 _ (by rw [D.py, PyData.canLay0, a.cl]) (by rw [D.py, PyData.intsShort, a.is]))
    have c := a.we
    have e : (D.lst ([cut T s, cut R s].map dTab)).py.weight = PyData.weightAll (pyL ([cut T s, cut R s].map dTab)) := by rw [D.py, PyData.weight]
    rw [e] at b
    rw [sizeLine_eq]
    omega
end Wa
set_option maxHeartbeats 4000000
/-! Plain laws: bounds of the law's count. -/
namespace Wa
open PySem PySem.Spec PyProof.Rows L2
theorem out_r1 {T R : Tab} (hw : WF T) (hv : WF R) (s : List Int) : RO (.lst [.int (prodI (sortU (outQ T s))), .int (prodI (sortU (outQ R s)))]) := by
  have b : ∀ {U : Tab}, WF U → 0 ≤ prodI (sortU (outQ U s)) ∧ prodI (sortU (outQ U s)) < 100000000 := fun {U} hu => by
    rw [← outM_eq hu]
    have := prodI_bd (outM U s) (out_ps hu) (Nat.le_trans (List.length_filter_le _ _) hu.pl)
    omega
  refine ro_lst (W := 400) (n := 0) (fun d hd => ?_) (by decide) (by show 2 * 401 ≤ 100000; decide)
  simp only [List.mem_cons, List.not_mem_nil, or_false] at hd
  rcases hd with rfl | rfl
  · exact sm_small (b hw)
  · exact sm_small (b hv)
theorem mvL_len {T : Tab} (hw : WF T) : (mvL T).length ≤ 5 := by
  have e : mvL T = T.1.filter fun p => decide (p ∈ mvL T) := sorted_same (sortU_sorted _) (hw.ps.sublist List.filter_sublist) fun k => by
    rw [List.mem_filter, decide_eq_true_eq]
    exact ⟨fun h => ⟨mvL_in hw k h, h⟩, fun h => h.2⟩
  rw [e]
  exact Nat.le_trans (List.length_filter_le _ _) hw.pl
theorem fold_bd {α : Type} (f : Int → α → Int) : ∀ (xs : List α) (a : Int), (∀ a, ∀ x ∈ xs, 0 ≤ a → 0 ≤ f a x ∧ f a x ≤ a * 1000) → 0 ≤ a → 0 ≤ xs.foldl f a ∧ xs.foldl f a ≤ a * 1000 ^ xs.length := fun xs => by
  induction xs with
  | nil => exact fun a _ h => ⟨h, by simp⟩
  | cons x xs ih =>
    intro a hf h
    obtain ⟨f1, f2⟩ := hf a x List.mem_cons_self h
    obtain ⟨h1, h2⟩ := ih (f a x) (fun a y hy => hf a y (List.mem_cons_of_mem _ hy)) f1
    refine ⟨h1, Int.le_trans h2 ?_⟩
    rw [List.length_cons, Int.pow_succ, Int.mul_comm (1000 ^ _) 1000, ← Int.mul_assoc]
    exact Int.mul_le_mul_of_nonneg_right f2 (Int.pow_nonneg (by decide))
theorem sum_bd : ∀ (xs : List Int) (B : Int), (∀ x ∈ xs, 0 ≤ x ∧ x ≤ B) → 0 ≤ xs.sum ∧ xs.sum ≤ xs.length * B
  | [], B, _ => ⟨by simp, by simp⟩
  | x :: xs, B, h => by
    have a := h x List.mem_cons_self
    obtain ⟨b, c⟩ := sum_bd xs B fun y hy => h y (List.mem_cons_of_mem _ hy)
    rw [List.sum_cons, List.length_cons, Int.natCast_add, Int.add_mul]
    have : ((1 : Nat) : Int) * B = B := Int.one_mul B
    exact ⟨by omega, by omega⟩
theorem sq_bd {q : Int} (h : 2 ≤ q ∧ q ≤ 31) : 0 ≤ q * q ∧ q * q ≤ 1000 := by
  have a : q * q ≤ 31 * 31 := Int.mul_le_mul h.2 h.2 (by omega) (by decide)
  have b : 0 ≤ q * q := Int.mul_nonneg (by omega) (by omega)
  omega
theorem here_bd {T : Tab} (hw : WF T) (r : Int) (h1 h2 : List Int) : 0 ≤ hereM T r h1 h2 ∧ hereM T r h1 h2 ≤ 1000 ^ 5 := by
  obtain ⟨a, b⟩ := fold_bd (stepH T r h1 h2) (mvL T) 1 (fun a q hq ha => by
    have q2 := ps_of hw (mvL_in hw q hq)
    have q3 := sq_bd q2
    unfold stepH
    split
    · exact ⟨Int.mul_nonneg ha q3.1, Int.mul_le_mul_of_nonneg_left q3.2 ha⟩
    · exact ⟨Int.mul_nonneg ha (by omega), Int.mul_le_mul_of_nonneg_left (by omega) ha⟩) (by decide)
  refine ⟨a, Int.le_trans b ?_⟩
  rw [Int.one_mul]
  have := mvL_len hw
  have : (mvL T).length = 0 ∨ (mvL T).length = 1 ∨ (mvL T).length = 2 ∨ (mvL T).length = 3 ∨ (mvL T).length = 4 ∨ (mvL T).length = 5 := by omega
  rcases this with e | e | e | e | e | e <;> rw [e] <;> decide
theorem twL_bd {T : Tab} (hT : CH T) (r : Int) : 0 ≤ twL T r ∧ twL T r ≤ (1000 * (1000 * 1000 ^ 5)) * 1000 ^ 5 := by
  have hw := hT.w
  have il : ((itemsM T).length : Int) ≤ 1000 := by rw [(items_ok hw).2]; exact hT.pm
  have row : ∀ y, 0 ≤ rowT T r y ∧ rowT T r y ≤ 1000 * 1000 ^ 5 := fun y => by
    unfold rowT
    split
    · obtain ⟨a, b⟩ := sum_bd ((itemsM T).map fun z => hereM T r (factM T y) (factM T z)) (1000 ^ 5) fun x hx => by
        obtain ⟨z, _, rfl⟩ := List.mem_map.mp hx
        exact here_bd hw r _ _
      rw [List.length_map] at b
      exact ⟨a, Int.le_trans b (Int.mul_le_mul_of_nonneg_right il (by decide))⟩
    · decide
  obtain ⟨a, b⟩ := sum_bd ((itemsM T).map (rowT T r)) (1000 * 1000 ^ 5) fun x hx => by
    obtain ⟨y, _, rfl⟩ := List.mem_map.mp hx
    exact row y
  rw [List.length_map] at b
  have b2 : ((itemsM T).map (rowT T r)).sum ≤ 1000 * (1000 * 1000 ^ 5) := Int.le_trans b (Int.mul_le_mul_of_nonneg_right il (by decide))
  obtain ⟨c, d⟩ := fold_bd (lastF T r) T.1 ((itemsM T).map (rowT T r)).sum (fun a p hp ha => by
    have p2 := ps_of hw hp
    have p3 := sq_bd p2
    unfold lastF
    split
    · split
      · exact ⟨Int.mul_nonneg ha p3.1, Int.mul_le_mul_of_nonneg_left p3.2 ha⟩
      · exact ⟨Int.mul_nonneg ha (by omega), Int.mul_le_mul_of_nonneg_left (by omega) ha⟩
    · exact ⟨ha, by omega⟩) a
  refine ⟨c, Int.le_trans d ?_⟩
  have e : (1000 : Int) ^ T.1.length ≤ 1000 ^ 5 := by
    have := hw.pl
    have : T.1.length = 0 ∨ T.1.length = 1 ∨ T.1.length = 2 ∨ T.1.length = 3 ∨ T.1.length = 4 ∨ T.1.length = 5 := by omega
    rcases this with e | e | e | e | e | e <;> rw [e] <;> decide
  exact Int.mul_le_mul b2 e (Int.pow_nonneg (by decide)) (by decide)
theorem count_r2 {T R : Tab} (hT : CH T) (hR : CH R) (r : Int) : RO (.lst [.int (twL T r), .int (twL R r)]) := by
  have b : ∀ {U : Tab}, CH U → Sm (.int (twL U r)) 400 0 := fun {U} hU => by
    obtain ⟨a, b⟩ := twL_bd hU r
    refine sm_int ?_
    have c : twL U r < 2 ^ 200 := Int.lt_of_le_of_lt b (by decide)
    have d : ((twL U r).natAbs : Int) < ((2 ^ 200 : Nat) : Int) := by
      rw [Int.natAbs_of_nonneg a]
      exact c
    exact Nat.lt_trans (Int.ofNat_lt.mp d) (by decide)
  refine ro_lst (W := 400) (n := 0) (fun d hd => ?_) (by decide) (by show 2 * 401 ≤ 100000; decide)
  simp only [List.mem_cons, List.not_mem_nil, or_false] at hd
  rcases hd with rfl | rfl
  · exact b hT
  · exact b hR
end Wa
set_option maxHeartbeats 4000000
/-! Plain laws: expansion over subsets, sums. -/
namespace Wa
open PySem PySem.Spec PyProof.Rows L2
theorem weight_cons' (ns : List Int) (n : Int) : weight (ns ++ [n]) = weight ns * (n - 1) := weight_snoc ns n
theorem sum_append' (xs ys : List Int) : (xs ++ ys).sum = xs.sum + ys.sum := List.sum_append
theorem sum_mul_left (c : Int) : ∀ xs : List Int, (xs.map fun x => c * x).sum = c * xs.sum
  | [] => by simp
  | x :: xs => by rw [List.map_cons, List.sum_cons, List.sum_cons, sum_mul_left c xs, Int.mul_add]
theorem sum_add {α : Type} (f g : α → Int) : ∀ xs : List α, (xs.map fun x => f x + g x).sum = (xs.map f).sum + (xs.map g).sum
  | [] => by simp
  | x :: xs => by
    rw [List.map_cons, List.map_cons, List.map_cons, List.sum_cons, List.sum_cons, List.sum_cons, sum_add f g xs]
    omega
theorem sum_swap {α β : Type} (f : α → β → Int) (ys : List β) : ∀ xs : List α, (xs.map fun x => (ys.map fun y => f x y).sum).sum = (ys.map fun y => (xs.map fun x => f x y).sum).sum
  | [] => by
    have z : ∀ zs : List β, (zs.map fun _ => (0 : Int)).sum = 0 := fun zs => by
      induction zs with
      | nil => rfl
      | cons z zs ih => rw [List.map_cons, List.sum_cons, ih] <;> rfl
    exact (z ys).symm
  | x :: xs => by
    rw [List.map_cons, List.sum_cons, sum_swap f ys xs, ← sum_add]
    rfl
/-- the product over ns of 1 + (n - 1) where p holds, is the sum over the subsets of which all hold p -/
theorem expand (p : Int → Bool) (ns : List Int) : ns.foldl (fun a n => a * (if p n = true then n else 1)) 1 = ((subsets ns).map fun Q => weight Q * (if Q.all p = true then 1 else 0)).sum := by
  have go : ∀ (n : Nat) (ns : List Int), ns.length = n → ns.foldl (fun a n => a * (if p n = true then n else 1)) 1 = ((subsets ns).map fun Q => weight Q * (if Q.all p = true then 1 else 0)).sum := fun n => by
    induction n with
    | zero =>
      intro ns hn
      have : ns = [] := List.eq_nil_of_length_eq_zero hn
      subst this
      rfl
    | succ n ih =>
      intro ns hn
      have hne : ns ≠ [] := fun h => by rw [h] at hn; cases hn
      have e := List.dropLast_concat_getLast hne
      have hl : ns.dropLast.length = n := by rw [List.length_dropLast]; omega
      rw [← e, List.foldl_append, subsets_snoc, List.map_append, List.sum_append, ih _ hl, List.map_map]
      have f : ((fun Q => weight Q * (if Q.all p = true then 1 else 0)) ∘ fun x => x ++ [ns.getLast hne]) = fun Q => (if p (ns.getLast hne) = true then (ns.getLast hne) - 1 else 0) * (weight Q * (if Q.all p = true then 1 else 0)) := funext fun Q => by
        show weight (Q ++ [ns.getLast hne]) * (if (Q ++ [ns.getLast hne]).all p = true then 1 else 0) = _
        rw [weight_snoc, List.all_append, List.all_cons, List.all_nil, Bool.and_true]
        by_cases h1 : Q.all p = true <;> by_cases h2 : p (ns.getLast hne) = true <;> simp [h1, h2, Int.mul_comm]
      have g : ((subsets ns.dropLast).map fun Q => (if p (ns.getLast hne) = true then (ns.getLast hne) - 1 else 0) * (weight Q * (if Q.all p = true then 1 else 0))).sum = (if p (ns.getLast hne) = true then (ns.getLast hne) - 1 else 0) * ((subsets ns.dropLast).map fun Q => weight Q * (if Q.all p = true then 1 else 0)).sum := by
        have := sum_mul_left (if p (ns.getLast hne) = true then (ns.getLast hne) - 1 else 0) ((subsets ns.dropLast).map fun Q => weight Q * (if Q.all p = true then 1 else 0))
        rw [List.map_map] at this
        exact this
      rw [f, g]
      show _ * (if p (ns.getLast hne) = true then ns.getLast hne else 1) = _
      by_cases h2 : p (ns.getLast hne) = true
      · rw [if_pos h2, if_pos h2, Int.sub_mul, Int.one_mul, Int.mul_comm]
        omega
      · rw [if_neg h2, if_neg h2, Int.mul_one, Int.zero_mul, Int.add_zero]
  exact go _ ns rfl
end Wa
set_option maxHeartbeats 4000000
/-! Plain laws: the factor at one prime. -/
namespace Wa
open PySem PySem.Spec PyProof.Rows L2
def phiE (q v a : Int) (e : Pr) : Int := if e.1 = q then a * upM e.2 v.toNat q % q else a
def phiM (T : Tab) (y : List Int) (q a : Int) (m : Int × Row) : Int := m.2.foldl (phiE q (y.getD (idx T m.1) 0)) a
def phi (T : Tab) (y : List Int) (q : Int) : Int := T.2.foldl (phiM T y q) 1
theorem idx_inj {T : Tab} {p q : Int} (hp : p ∈ T.1) (hq : q ∈ T.1) (h : idx T p = idx T q) : p = q := by
  have a : T.1[idx T p]'(idx_lt hp) = p := List.getElem_idxOf (idx_lt hp)
  have b : T.1[idx T q]'(idx_lt hq) = q := List.getElem_idxOf (idx_lt hq)
  rw [← a, ← b]
  congr 1
theorem getD_set {xs : List Int} {i j : Nat} {v : Int} (hi : i < xs.length) : (xs.set i v).getD j 0 = if i = j then v else xs.getD j 0 := by
  rw [List.getD_eq_getElem?_getD, List.getD_eq_getElem?_getD]
  by_cases h : i = j
  · subst h
    rw [if_pos rfl, List.getElem?_set_self hi] <;> rfl
  · rw [if_neg h, List.getElem?_set_ne h]
theorem fact_phi {T : Tab} (hw : WF T) (y : List Int) {q : Int} (hq : q ∈ T.1) : (factM T y).getD (idx T q) 0 = phi T y q := by
  have row : ∀ (r : Row) (v : Int) (fo : List Int), (∀ e ∈ r, e.1 ∈ T.1) → fo.length = T.1.length → (r.foldl (stepF T v) fo).length = T.1.length ∧ (r.foldl (stepF T v) fo).getD (idx T q) 0 = r.foldl (phiE q v) (fo.getD (idx T q) 0) := fun r v => by
    induction r with
    | nil => exact fun fo _ hl => ⟨hl, rfl⟩
    | cons e r ih =>
      intro fo hr hl
      have he := hr e List.mem_cons_self
      have il : idx T e.1 < fo.length := by rw [hl]; exact idx_lt he
      have s : (stepF T v fo e).getD (idx T q) 0 = phiE q v (fo.getD (idx T q) 0) e := by
        unfold stepF phiE
        rw [getD_set il]
        by_cases h : e.1 = q
        · rw [if_pos (by rw [h]), if_pos h, h]
        · rw [if_neg (fun z => h (idx_inj he hq z)), if_neg h]
      obtain ⟨a, b⟩ := ih (stepF T v fo e) (fun x hx => hr x (List.mem_cons_of_mem _ hx)) (by rw [stepF_len, hl])
      rw [List.foldl_cons, List.foldl_cons, ← s]
      exact ⟨a, b⟩
  have all : ∀ (ms : List (Int × Row)) (fo : List Int), (∀ m ∈ ms, ∀ e ∈ m.2, e.1 ∈ T.1) → fo.length = T.1.length → (ms.foldl (fun fo m => m.2.foldl (stepF T (y.getD (idx T m.1) 0)) fo) fo).getD (idx T q) 0 = ms.foldl (phiM T y q) (fo.getD (idx T q) 0) := fun ms => by
    induction ms with
    | nil => exact fun _ _ _ => rfl
    | cons m ms ih =>
      intro fo hm hl
      obtain ⟨a, b⟩ := row m.2 (y.getD (idx T m.1) 0) fo (hm m List.mem_cons_self) hl
      rw [List.foldl_cons, List.foldl_cons, ih _ (fun x hx => hm x (List.mem_cons_of_mem _ hx)) a, b]
      rfl
  unfold factM phi
  rw [all T.2 _ (fun m hm e he => ((hw.mv m hm).ed e he).1) List.length_replicate]
  congr 1
  rw [List.getD_eq_getElem?_getD, List.getElem?_replicate, if_pos (idx_lt hq)] <;> rfl
end Wa
set_option maxHeartbeats 4000000
/-! Plain laws: the factor at q by q's movers. -/
namespace Wa
open PySem PySem.Spec PyProof.Rows L2
theorem foldE_none {r : Row} {q v a : Int} (h : ∀ e ∈ r, e.1 ≠ q) : r.foldl (phiE q v) a = a := by
  induction r generalizing a with
  | nil => rfl
  | cons e r ih =>
    rw [List.foldl_cons]
    have : phiE q v a e = a := by
      unfold phiE
      rw [if_neg (h e List.mem_cons_self)]
    rw [this]
    exact ih fun x hx => h x (List.mem_cons_of_mem _ hx)
theorem foldE_one {r : Row} {q v a : Int} (hs : (r.map (·.1)).Pairwise (· < ·)) {e : Pr} (he : e ∈ r) (hq : e.1 = q) : r.foldl (phiE q v) a = a * upM e.2 v.toNat q % q := by
  induction r generalizing a with
  | nil => cases he
  | cons x r ih =>
    rw [List.map_cons, List.pairwise_cons] at hs
    rw [List.foldl_cons]
    rcases List.mem_cons.mp he with rfl | h
    · rw [foldE_none fun y hy => by
        have : e.1 < y.1 := hs.1 y.1 (List.mem_map.mpr ⟨y, hy, rfl⟩)
        omega]
      unfold phiE
      rw [if_pos hq]
    · have hx : x.1 < e.1 := hs.1 e.1 (List.mem_map.mpr ⟨e, h, rfl⟩)
      have : phiE q v a x = a := by
        unfold phiE
        rw [if_neg (by omega)]
      rw [this]
      exact ih hs.2 h
/-- the fold over q's movers -/
def phiV (T : Tab) (y : List Int) (q : Int) : Int := (moversOn T q).foldl (fun a m => a * upM (rootOf T m q) (y.getD (idx T m) 0).toNat q % q) 1
theorem phi_movers {T : Tab} (hw : WF T) (y : List Int) (q : Int) : phi T y q = phiV T y q := by
  have go : ∀ (ms : List (Int × Row)) (a : Int), (∀ m ∈ ms, m ∈ T.2) → ms.foldl (phiM T y q) a = (((ms.flatMap fun m => m.2.map fun e => (m.1, e.1)).filter fun e : Pr => decide (e.2 = q)).map (·.1)).foldl (fun a m => a * upM (rootOf T m q) (y.getD (idx T m) 0).toNat q % q) a := fun ms => by
    induction ms with
    | nil => exact fun _ _ => rfl
    | cons m ms ih =>
      intro a hm
      have hmT := hm m List.mem_cons_self
      have wm := hw.mv m hmT
      rw [List.foldl_cons, List.flatMap_cons, List.filter_append, List.map_append, List.foldl_append, ih _ fun x hx => hm x (List.mem_cons_of_mem _ hx)]
      congr 1
      unfold phiM
      rw [List.filter_map, List.map_map]
      have f : ((fun e : Pr => decide (e.2 = q)) ∘ fun e : Pr => (m.1, e.1)) = fun e : Pr => decide (e.1 = q) := rfl
      rw [f]
      by_cases h : ∃ e ∈ m.2, e.1 = q
      · obtain ⟨e, he, hq⟩ := h
        rw [foldE_one wm.so he hq]
        have one : (m.2.filter fun e => decide (e.1 = q)) = [e] := by
          have sub : ∀ r : Row, (r.map (·.1)).Pairwise (· < ·) → e ∈ r → (r.filter fun e => decide (e.1 = q)) = [e] := fun r => by
            induction r with
            | nil => exact fun _ h => by cases h
            | cons x r ih2 =>
              intro hs hx
              rw [List.map_cons, List.pairwise_cons] at hs
              rw [List.filter_cons]
              rcases List.mem_cons.mp hx with rfl | h2
              · rw [if_pos (decide_eq_true hq)]
                have : r.filter (fun e => decide (e.1 = q)) = [] := List.filter_eq_nil_iff.mpr fun z hz hc => by
                  have h3 : e.1 < z.1 := hs.1 z.1 (List.mem_map.mpr ⟨z, hz, rfl⟩)
                  have := of_decide_eq_true hc
                  omega
                rw [this]
              · have h3 : x.1 < e.1 := hs.1 e.1 (List.mem_map.mpr ⟨e, h2, rfl⟩)
                rw [if_neg (by rw [decide_eq_false (show ¬ x.1 = q by omega)]; exact Bool.false_ne_true)]
                exact ih2 hs.2 h2
          exact sub m.2 wm.so he
        rw [one]
        have rt : rootOf T m.1 q = e.2 := by
          rw [← hq]
          have := rowOf_eq hw hmT
          exact rootOf_at (by rw [this]; exact wm.so) (by rw [this]; exact he)
        show _ = a * upM (rootOf T m.1 q) (y.getD (idx T m.1) 0).toNat q % q
        rw [rt]
      · have z : (m.2.filter fun e => decide (e.1 = q)) = [] := List.filter_eq_nil_iff.mpr fun e he hc => h ⟨e, he, of_decide_eq_true hc⟩
        rw [z, foldE_none fun e he hc => h ⟨e, he, hc⟩] <;> rfl
  exact go T.2 1 fun _ h => h
end Wa
set_option maxHeartbeats 4000000
/-! Plain laws: at one prime q, by finite checks. -/
namespace Wa
open PySem PySem.Spec PyProof.Rows L2
/-- one mover -/
def chk1 : Bool := ES.all fun e => (rootsM e.1 e.2).all fun g => (List.range e.1.toNat).all fun y => (List.range e.2.toNat).all fun (ρ : Nat) =>
  decide (1 * upM g y e.2 % e.2 = (ρ : Int)) == (decide (upM (ρ : Int) e.1.toNat e.2 = 1) && decide (logIn (upM g 1 e.2) (upM (ρ : Int) 1 e.2) e.2 e.1.toNat = some (y : Int)))
theorem chk1_ok : chk1 = true := by decide +kernel
/-- two movers -/
def chk2 : Bool := ES.all fun e => ES.all fun f => !(decide (e.2 = f.2) && decide (e.1 < f.1)) || (rootsM e.1 e.2).all fun g => (rootsM f.1 e.2).all fun h => (List.range e.1.toNat).all fun y => (List.range f.1.toNat).all fun z => (List.range e.2.toNat).all fun (ρ : Nat) =>
  decide ((1 * upM g y e.2 % e.2) * upM h z e.2 % e.2 = (ρ : Int)) == (decide (upM (ρ : Int) (e.1 * f.1).toNat e.2 = 1) && decide (logIn (upM g f.1.toNat e.2) (upM (ρ : Int) f.1.toNat e.2) e.2 e.1.toNat = some (y : Int)) && decide (logIn (upM h e.1.toNat e.2) (upM (ρ : Int) e.1.toNat e.2) e.2 f.1.toNat = some (z : Int)))
theorem chk2_ok : chk2 = true := by decide +kernel
end Wa
set_option maxHeartbeats 4000000
/-! Plain laws: what the checks say of a table. -/
namespace Wa
open PySem PySem.Spec PyProof.Rows L2
def chk3 : Bool := ES.all fun a => ES.all fun b => ES.all fun c => !(decide (a.2 = b.2) && decide (b.2 = c.2) && decide (a.1 < b.1) && decide (b.1 < c.1))
theorem chk3_ok : chk3 = true := by decide +kernel
theorem on_es {T : Tab} (hw : WF T) {q m : Int} (h : m ∈ moversOn T q) : (m, q) ∈ ES ∧ rootOf T m q ∈ rootsM m q := by
  have hwb := on_web.mp h
  have hm := web_mover hwb
  obtain ⟨e, he, rfl⟩ := web_row hw hwb
  have wm := row_wf hw hm
  rw [rootOf_at wm.so he]
  exact ⟨(wm.ed e he).2.1, wfm_root wm he⟩
theorem on_two {T : Tab} (hw : WF T) (q : Int) : moversOn T q = [] ∨ (∃ a, moversOn T q = [a]) ∨ ∃ a b, moversOn T q = [a, b] ∧ a < b := by
  have s := moversOn_nd hw q
  have e : ∀ m ∈ moversOn T q, (m, q) ∈ ES := fun m hm => (on_es hw hm).1
  match h : moversOn T q with
  | [] => exact .inl rfl
  | [a] => exact .inr (.inl ⟨a, rfl⟩)
  | [a, b] =>
    rw [h, List.pairwise_cons] at s
    exact .inr (.inr ⟨a, b, rfl, s.1 b List.mem_cons_self⟩)
  | a :: b :: c :: r =>
    rw [h] at s e
    rw [List.pairwise_cons, List.pairwise_cons] at s
    have h1 := s.1 b List.mem_cons_self
    have h2 := s.2.1 c List.mem_cons_self
    have z := List.all_eq_true.mp (List.all_eq_true.mp (List.all_eq_true.mp chk3_ok _ (e a List.mem_cons_self)) _ (e b (List.mem_cons_of_mem _ List.mem_cons_self))) _ (e c (List.mem_cons_of_mem _ (List.mem_cons_of_mem _ List.mem_cons_self)))
    rw [decide_eq_true (rfl : q = q), decide_eq_true h1, decide_eq_true h2] at z
    cases z
end Wa
set_option maxHeartbeats 4000000
/-! Plain laws: the factor at q is rho just when the logs of rho are the item's. -/
namespace Wa
open PySem PySem.Spec PyProof.Rows L2
theorem one_at {e : Int × Int} (h : e ∈ ES) {g : Int} (hg : g ∈ rootsM e.1 e.2) {y : Nat} (hy : (y : Int) < e.1) {ρ : Nat} (hr : (ρ : Int) < e.2) : (1 * upM g y e.2 % e.2 = (ρ : Int)) ↔ (upM (ρ : Int) e.1.toNat e.2 = 1 ∧ logIn (upM g 1 e.2) (upM (ρ : Int) 1 e.2) e.2 e.1.toNat = some (y : Int)) := by
  have a := List.all_eq_true.mp (List.all_eq_true.mp (List.all_eq_true.mp (List.all_eq_true.mp chk1_ok e h) g hg) y (List.mem_range.mpr (by omega))) ρ (List.mem_range.mpr (by omega))
  have b := eq_of_beq a
  rw [Bool.eq_iff_iff, Bool.and_eq_true, decide_eq_true_eq, decide_eq_true_eq, decide_eq_true_eq] at b
  exact b
end Wa
set_option maxHeartbeats 4000000
/-! Plain laws: sums over all items, as sums over the movers one by one. -/
namespace Wa
open PySem PySem.Spec PyProof.Rows L2
def updI (v : Int → Int) (m i : Int) : Int → Int := fun p => if p = m then i else v p
theorem updI_same (v : Int → Int) (m i : Int) : updI v m i m = i := if_pos rfl
theorem updI_ne {v : Int → Int} {m i p : Int} (h : p ≠ m) : updI v m i p = v p := if_neg h
def rngI (m : Int) : List Int := (List.range m.toNat).map fun (i : Nat) => (i : Int)
theorem mem_rngI {m i : Int} : i ∈ rngI m ↔ 0 ≤ i ∧ i < m := by
  constructor
  · intro h
    obtain ⟨j, hj, rfl⟩ := List.mem_map.mp h
    have := List.mem_range.mp hj
    omega
  · rintro ⟨a, b⟩
    exact List.mem_map.mpr ⟨i.toNat, List.mem_range.mpr (by omega), by omega⟩
def sumA : List Int → ((Int → Int) → Int) → (Int → Int) → Int
  | [], F, v => F v
  | m :: ms, F, v => ((rngI m).map fun i => sumA ms F (updI v m i)).sum
theorem sumA_congr : ∀ {ms : List Int} {F G : (Int → Int) → Int} {v v' : Int → Int}, (∀ w w' : Int → Int, (∀ p ∈ ms, w p = w' p ∧ 0 ≤ w p ∧ w p < p) → (∀ p, p ∉ ms → w p = v p ∧ w' p = v' p) → F w = G w') → (∀ p ∈ ms, p ∉ ms → v p = v' p) → sumA ms F v = sumA ms G v'
  | [], F, G, v, v', h, _ => h v v' nofun fun _ _ => ⟨rfl, rfl⟩
  | m :: ms, F, G, v, v', h, _ => by
    show ((rngI m).map fun i => sumA ms F (updI v m i)).sum = ((rngI m).map fun i => sumA ms G (updI v' m i)).sum
    refine congrArg List.sum (List.map_congr_left fun i hi => ?_)
    have hi := mem_rngI.mp hi
    refine sumA_congr (fun w w' h1 h2 => h w w' (fun p hp => ?_) fun p hp => ?_) fun p a b => absurd a b
    · by_cases hm : p ∈ ms
      · exact h1 p hm
      · have e : p = m := by
          rcases List.mem_cons.mp hp with e | e
          · exact e
          · exact absurd e hm
        obtain ⟨a, b⟩ := h2 p hm
        subst e
        rw [updI_same] at a b
        rw [a, b]
        exact ⟨rfl, hi⟩
    · have hm : p ∉ ms := fun z => hp (List.mem_cons_of_mem _ z)
      have hne : p ≠ m := fun z => hp (z ▸ List.mem_cons_self)
      obtain ⟨a, b⟩ := h2 p hm
      rw [updI_ne hne] at a b
      exact ⟨a, b⟩
/-- the same start -/
theorem sumA_same {ms : List Int} {F G : (Int → Int) → Int} {v : Int → Int} (h : ∀ w : Int → Int, (∀ p ∈ ms, 0 ≤ w p ∧ w p < p) → (∀ p, p ∉ ms → w p = v p) → F w = G w) : sumA ms F v = sumA ms G v := by
  refine sumA_congr (fun w w' h1 h2 => ?_) fun _ _ _ => rfl
  have e : w = w' := funext fun p => by
    by_cases hp : p ∈ ms
    · exact (h1 p hp).1
    · rw [(h2 p hp).1, (h2 p hp).2]
  subst e
  exact h w (fun p hp => (h1 p hp).2) fun p hp => (h2 p hp).1
theorem sumA_mul (c : Int) (F : (Int → Int) → Int) : ∀ (ms : List Int) (v : Int → Int), sumA ms (fun w => c * F w) v = c * sumA ms F v
  | [], v => rfl
  | m :: ms, v => by
    show ((rngI m).map fun i => sumA ms (fun w => c * F w) (updI v m i)).sum = c * ((rngI m).map fun i => sumA ms F (updI v m i)).sum
    have e : ((rngI m).map fun i => sumA ms (fun w => c * F w) (updI v m i)) = ((rngI m).map fun i => sumA ms F (updI v m i)).map fun x => c * x := by
      rw [List.map_map]
      exact List.map_congr_left fun i _ => sumA_mul c F ms _
    rw [e, sum_mul_left]
theorem sumA_zero (ms : List Int) (v : Int → Int) : sumA ms (fun _ => 0) v = 0 := by
  have := sumA_mul 0 (fun _ => 0) ms v
  simpa using this
theorem sumA_list {α : Type} (L : List α) (F : α → (Int → Int) → Int) : ∀ (ms : List Int) (v : Int → Int), sumA ms (fun w => (L.map fun Q => F Q w).sum) v = (L.map fun Q => sumA ms (F Q) v).sum
  | [], v => rfl
  | m :: ms, v => by
    show ((rngI m).map fun i => sumA ms (fun w => (L.map fun Q => F Q w).sum) (updI v m i)).sum = (L.map fun Q => ((rngI m).map fun i => sumA ms (F Q) (updI v m i)).sum).sum
    rw [← sum_swap]
    exact congrArg List.sum (List.map_congr_left fun i _ => sumA_list L F ms _)
/-- what an item holds at each prime -/
def rd (T : Tab) (y : List Int) : Int → Int := fun p => y.getD (idx T p) 0
theorem rd_put {T : Tab} {y : List Int} (hl : y.length = T.1.length) {m : Int} (hm : m ∈ T.1) (r : Int) : rd T (putY T m y r) = updI (rd T y) m r := by
  funext q
  unfold rd putY updI
  by_cases hq : q ∈ T.1
  · have hi := idx_lt hq
    have e : T.1[idx T q]'hi = q := List.getElem_idxOf hi
    rw [List.getD_eq_getElem?_getD, List.getElem?_map, List.getElem?_zipIdx, List.getElem?_eq_getElem hi, e, Nat.zero_add]
    rfl
  · have hne : q ≠ m := fun z => hq (z ▸ hm)
    have hi : idx T q = T.1.length := List.idxOf_eq_length hq
    have a : ∀ xs : List Int, xs.length = T.1.length → xs.getD T.1.length 0 = 0 := fun xs h => by rw [List.getD_eq_getElem?_getD, List.getElem?_eq_none (by omega)] <;> rfl
    rw [if_neg hne, hi, a _ (by rw [List.length_map, List.length_zipIdx])]
    show 0 = y.getD (idx T q) 0
    rw [hi, a y hl]
theorem sum_flatMap {α β : Type} (g : β → Int) (f : α → List β) : ∀ xs : List α, ((xs.flatMap f).map g).sum = (xs.map fun x => ((f x).map g).sum).sum
  | [] => rfl
  | x :: xs => by rw [List.flatMap_cons, List.map_append, List.sum_append, List.map_cons, List.sum_cons, sum_flatMap g f xs]
theorem items_go_sum {T : Tab} (F : (Int → Int) → Int) : ∀ (ms : List Int) (acc : List (List Int)), (∀ m ∈ ms, m ∈ T.1) → (∀ y ∈ acc, y.length = T.1.length) → ((ms.foldl (fun acc p => acc.flatMap (spread T p)) acc).map fun y => F (rd T y)).sum = (acc.map fun y => sumA ms F (rd T y)).sum
  | [], acc, _, _ => rfl
  | m :: ms, acc, hm, ha => by
    rw [List.foldl_cons, items_go_sum F ms _ (fun x hx => hm x (List.mem_cons_of_mem _ hx)) fun y hy => ?_, sum_flatMap]
    · refine congrArg List.sum (List.map_congr_left fun y hy => ?_)
      show (((spread T m y)).map fun y => sumA ms F (rd T y)).sum = ((rngI m).map fun i => sumA ms F (updI (rd T y) m i)).sum
      unfold spread rngI
      rw [List.map_map, List.map_map]
      refine congrArg List.sum (List.map_congr_left fun r _ => ?_)
      show sumA ms F (rd T (putY T m y (0 + (r : Int)))) = _
      rw [rd_put (ha y hy) (hm m List.mem_cons_self), Int.zero_add] <;> rfl
    · obtain ⟨x, hx, h2⟩ := List.mem_flatMap.mp hy
      obtain ⟨r, hr, rfl⟩ := List.mem_map.mp h2
      exact putY_len ..
theorem items_sum {T : Tab} (hw : WF T) (F : (Int → Int) → Int) : ((itemsM T).map fun y => F (rd T y)).sum = sumA (movers T) F fun _ => 0 := by
  unfold itemsM
  rw [items_go_sum F (movers T) _ (fun m hm => mover_in hw hm) fun y hy => by rw [List.mem_singleton.mp hy, List.length_replicate]]
  have e : rd T (List.replicate T.1.length 0) = fun _ => 0 := funext fun q => by
    unfold rd
    rw [List.getD_eq_getElem?_getD, List.getElem?_replicate]
    split <;> rfl
  rw [List.map_cons, List.map_nil, List.sum_cons, List.sum_nil, e, Int.add_zero]
/-! sums over subsets -/
def SS : List Int → (List Int → Int) → Int
  | [], G => G []
  | n :: ns, G => SS ns G + (n - 1) * SS ns fun Q => G (n :: Q)
theorem SS_snoc (n : Int) : ∀ (ns : List Int) (G : List Int → Int), SS (ns ++ [n]) G = SS ns G + (n - 1) * SS ns fun Q => G (Q ++ [n])
  | [], G => rfl
  | a :: ns, G => by
    rw [List.cons_append, SS, SS, SS, SS_snoc n ns G, SS_snoc n ns fun Q => G (a :: Q)]
    show SS ns G + (n - 1) * SS ns (fun Q => G (Q ++ [n])) + (a - 1) * (SS ns (fun Q => G (a :: Q)) + (n - 1) * SS ns fun Q => G (a :: (Q ++ [n]))) = SS ns G + (a - 1) * SS ns (fun Q => G (a :: Q)) + (n - 1) * (SS ns (fun Q => G (Q ++ [n])) + (a - 1) * SS ns fun Q => G (a :: (Q ++ [n])))
    rw [Int.mul_add (a - 1), Int.mul_add (n - 1), Int.mul_left_comm (a - 1) (n - 1)]
    omega
theorem SS_sum : ∀ (k : Nat) (ns : List Int) (G : List Int → Int), ns.length = k → ((subsets ns).map fun Q => weight Q * G Q).sum = SS ns G := fun k => by
  induction k with
  | zero =>
    intro ns G hn
    have : ns = [] := List.eq_nil_of_length_eq_zero hn
    subst this
    show ([1 * G []] : List Int).sum = G []
    rw [Int.one_mul, List.sum_cons, List.sum_nil, Int.add_zero]
  | succ k ih =>
    intro ns G hn
    have hne : ns ≠ [] := fun h => by rw [h] at hn; cases hn
    have e := List.dropLast_concat_getLast hne
    have hl : ns.dropLast.length = k := by rw [List.length_dropLast]; omega
    have f : ((fun Q => weight Q * G Q) ∘ fun x => x ++ [ns.getLast hne]) = fun Q => (ns.getLast hne - 1) * (weight Q * G (Q ++ [ns.getLast hne])) := funext fun Q => by
      show weight (Q ++ [ns.getLast hne]) * G (Q ++ [ns.getLast hne]) = _
      rw [weight_snoc, Int.mul_comm (weight Q), Int.mul_assoc]
    have g := sum_mul_left (ns.getLast hne - 1) ((subsets ns.dropLast).map fun Q => weight Q * G (Q ++ [ns.getLast hne]))
    rw [List.map_map] at g
    have g2 : ((subsets ns.dropLast).map fun Q => (ns.getLast hne - 1) * (weight Q * G (Q ++ [ns.getLast hne]))).sum = (ns.getLast hne - 1) * ((subsets ns.dropLast).map fun Q => weight Q * G (Q ++ [ns.getLast hne])).sum := g
    rw [← e, subsets_snoc, List.map_append, List.sum_append, SS_snoc, ih _ G hl, List.map_map, f, g2, ih _ (fun Q => G (Q ++ [ns.getLast hne])) hl]
theorem sum_const {α : Type} (c : Int) : ∀ xs : List α, (xs.map fun _ => c).sum = xs.length * c
  | [] => by simp
  | x :: xs => by
    rw [List.map_cons, List.sum_cons, sum_const c xs, List.length_cons, Int.natCast_add, Int.add_mul]
    have : ((1 : Nat) : Int) * c = c := Int.one_mul c
    omega
theorem rngI_cons {m : Int} (h : 1 ≤ m) : ∃ rs : List Int, rngI m = 0 :: rs ∧ (rs.length : Int) = m - 1 ∧ ∀ i ∈ rs, 1 ≤ i ∧ i < m := by
  obtain ⟨n, hn⟩ : ∃ n : Nat, m.toNat = n + 1 := ⟨m.toNat - 1, by omega⟩
  refine ⟨(List.range n).map fun (i : Nat) => ((i + 1 : Nat) : Int), ?_, ?_, fun i hi => ?_⟩
  · unfold rngI
    rw [hn, List.range_succ_eq_map, List.map_cons, List.map_map] <;> rfl
  · rw [List.length_map, List.length_range]
    omega
  · obtain ⟨j, hj, rfl⟩ := List.mem_map.mp hi
    have := List.mem_range.mp hj
    omega
/-- the items whose support is free, by their support -/
theorem supp_sum (free : Int → Bool) : ∀ (ms : List Int) (G : List Int → Int) (v : Int → Int), ms.Pairwise (· < ·) → (∀ m ∈ ms, 1 ≤ m) → sumA ms (fun w => if (ms.all fun m => decide (w m = 0) || free m) = true then G (ms.filter fun m => !decide (w m = 0)) else 0) v = SS (ms.filter free) G
  | [], G, v, _, _ => rfl
  | m :: ms, G, v, hs, h1 => by
    rw [List.pairwise_cons] at hs
    have hm : m ∉ ms := fun z => by have := hs.1 m z; omega
    have ih := fun G v => supp_sum free ms G v hs.2 fun x hx => h1 x (List.mem_cons_of_mem _ hx)
    obtain ⟨rs, e1, e2, e3⟩ := rngI_cons (h1 m List.mem_cons_self)
    have at0 : sumA ms (fun w => if ((m :: ms).all fun m => decide (w m = 0) || free m) = true then G ((m :: ms).filter fun m => !decide (w m = 0)) else 0) (updI v m 0) = SS (ms.filter free) G := by
      rw [← ih G (updI v m 0)]
      refine sumA_same fun w _ w2 => ?_
      have e : w m = 0 := by rw [w2 m hm, updI_same]
      rw [List.all_cons, List.filter_cons, decide_eq_true e, Bool.true_or, Bool.true_and, if_neg (show ¬ (!true) = true by decide)]
    have at1 : ∀ i ∈ rs, sumA ms (fun w => if ((m :: ms).all fun m => decide (w m = 0) || free m) = true then G ((m :: ms).filter fun m => !decide (w m = 0)) else 0) (updI v m i) = if free m = true then SS (ms.filter free) (fun Q => G (m :: Q)) else 0 := fun i hi => by
      have i1 := e3 i hi
      by_cases hf : free m = true
      · rw [if_pos hf, ← ih (fun Q => G (m :: Q)) (updI v m i)]
        refine sumA_same fun w _ w2 => ?_
        have e : w m = i := by rw [w2 m hm, updI_same]
        rw [List.all_cons, List.filter_cons, decide_eq_false (show ¬ w m = 0 by omega), Bool.false_or, hf, Bool.true_and, if_pos (show (!false) = true from rfl)]
      · rw [if_neg hf]
        refine (sumA_same fun w _ w2 => ?_).trans (sumA_zero ms (updI v m i))
        have e : w m = i := by rw [w2 m hm, updI_same]
        rw [List.all_cons, decide_eq_false (show ¬ w m = 0 by omega), Bool.false_or, (Bool.not_eq_true _).mp hf, Bool.false_and, if_neg Bool.false_ne_true]
    show ((rngI m).map fun i => sumA ms (fun w => if ((m :: ms).all fun m => decide (w m = 0) || free m) = true then G ((m :: ms).filter fun m => !decide (w m = 0)) else 0) (updI v m i)).sum = _
    rw [e1, List.map_cons, List.sum_cons, at0, List.map_congr_left at1, sum_const, e2, List.filter_cons]
    by_cases hf : free m = true
    · rw [if_pos hf, if_pos hf]
      rfl
    · rw [if_neg hf, if_neg hf, Int.mul_zero, Int.add_zero]
/-! products -/
def prodF : List Int → (Int → Int) → Int
  | [], _ => 1
  | m :: ms, f => f m * prodF ms f
theorem foldl_prodF (f : Int → Int) : ∀ (ns : List Int) (a : Int), ns.foldl (fun a n => a * f n) a = a * prodF ns f
  | [], a => (Int.mul_one a).symm
  | n :: ns, a => by rw [List.foldl_cons, foldl_prodF f ns, prodF, Int.mul_assoc]
theorem prodI_F (ns : List Int) : prodI ns = prodF ns id := by
  have := foldl_prodF id ns 1
  rw [Int.one_mul] at this
  exact this
theorem prodF_congr {f g : Int → Int} : ∀ {ns : List Int}, (∀ n ∈ ns, f n = g n) → prodF ns f = prodF ns g
  | [], _ => rfl
  | n :: ns, h => by rw [prodF, prodF, h n List.mem_cons_self, prodF_congr fun x hx => h x (List.mem_cons_of_mem _ hx)]
theorem sumA_prod (h : Int → Int → Int) : ∀ (ms : List Int) (v : Int → Int), ms.Pairwise (· < ·) → sumA ms (fun w => prodF ms fun m => h m (w m)) v = prodF ms fun m => ((rngI m).map (h m)).sum
  | [], v, _ => rfl
  | m :: ms, v, hs => by
    rw [List.pairwise_cons] at hs
    have hm : m ∉ ms := fun z => by have := hs.1 m z; omega
    have e : ∀ i ∈ rngI m, sumA ms (fun w => prodF (m :: ms) fun m => h m (w m)) (updI v m i) = h m i * prodF ms fun m => ((rngI m).map (h m)).sum := fun i _ => by
      rw [← sumA_prod h ms (updI v m i) hs.2, ← sumA_mul]
      refine sumA_same fun w _ w2 => ?_
      rw [prodF, w2 m hm, updI_same]
    show ((rngI m).map fun i => sumA ms (fun w => prodF (m :: ms) fun m => h m (w m)) (updI v m i)).sum = _
    rw [List.map_congr_left e, prodF]
    have := sum_mul_left (prodF ms fun m => ((rngI m).map (h m)).sum) ((rngI m).map (h m))
    rw [List.map_map] at this
    rw [Int.mul_comm, ← this]
    exact congrArg List.sum (List.map_congr_left fun i _ => Int.mul_comm _ _)
theorem perm_sum {xs ys : List Int} (h : xs.Perm ys) : xs.sum = ys.sum := by
  induction h with
  | nil => rfl
  | cons x _ ih => rw [List.sum_cons, List.sum_cons, ih]
  | swap x y l =>
    rw [List.sum_cons, List.sum_cons, List.sum_cons, List.sum_cons]
    omega
  | trans _ _ a b => exact a.trans b
/-- each mover's figures taken in another order -/
theorem sumA_perm (σ : Int → Int → Int) (F : (Int → Int) → Int) : ∀ (ms : List Int) (v : Int → Int), ms.Pairwise (· < ·) → (∀ m ∈ ms, ((rngI m).map (σ m)).Perm (rngI m)) → sumA ms (fun w => F fun p => if p ∈ ms then σ p (w p) else w p) v = sumA ms F v
  | [], v, _, _ => by
    show F _ = F v
    congr 1
  | m :: ms, v, hs, hp => by
    rw [List.pairwise_cons] at hs
    have hm : m ∉ ms := fun z => by have := hs.1 m z; omega
    have e : ∀ i ∈ rngI m, sumA ms (fun w => F fun p => if p ∈ m :: ms then σ p (w p) else w p) (updI v m i) = sumA ms F (updI v m (σ m i)) := fun i _ => by
      rw [← sumA_perm σ F ms (updI v m (σ m i)) hs.2 fun x hx => hp x (List.mem_cons_of_mem _ hx)]
      refine sumA_congr (fun w w' h1 h2 => congrArg F (funext fun p => ?_)) fun p a b => absurd a b
      by_cases hpm : p ∈ ms
      · rw [if_pos hpm, if_pos (List.mem_cons_of_mem _ hpm), (h1 p hpm).1]
      · obtain ⟨a, b⟩ := h2 p hpm
        rw [if_neg hpm]
        by_cases he : p = m
        · subst he
          rw [if_pos List.mem_cons_self, a, b, updI_same, updI_same]
        · rw [if_neg (fun z => by rcases List.mem_cons.mp z with z | z; exact he z; exact hpm z), a, b, updI_ne he, updI_ne he]
    show ((rngI m).map fun i => sumA ms (fun w => F fun p => if p ∈ m :: ms then σ p (w p) else w p) (updI v m i)).sum = ((rngI m).map fun i => sumA ms F (updI v m i)).sum
    rw [List.map_congr_left e]
    have := (hp m List.mem_cons_self).map fun j => sumA ms F (updI v m j)
    rw [List.map_map] at this
    exact perm_sum this
end Wa
set_option maxHeartbeats 4000000
/-! Plain laws: the number of items that reach r at all primes of Q is the program's. -/
namespace Wa
open PySem PySem.Spec PyProof.Rows L2
/-- the logs are there when the power is one -/
def chk4 : Bool := ES.all fun e => (rootsM e.1 e.2).all fun g => (List.range e.2.toNat).all fun (ρ : Nat) => !decide (upM (ρ : Int) e.1.toNat e.2 = 1) || (logIn (upM g 1 e.2) (upM (ρ : Int) 1 e.2) e.2 e.1.toNat).isSome
theorem chk4_ok : chk4 = true := by decide +kernel
def chk5 : Bool := ES.all fun e => ES.all fun f => !(decide (e.2 = f.2) && decide (e.1 < f.1)) || (rootsM e.1 e.2).all fun g => (rootsM f.1 e.2).all fun h => (List.range e.2.toNat).all fun (ρ : Nat) =>
  !decide (upM (ρ : Int) (e.1 * f.1).toNat e.2 = 1) || ((logIn (upM g f.1.toNat e.2) (upM (ρ : Int) f.1.toNat e.2) e.2 e.1.toNat).isSome && (logIn (upM h e.1.toNat e.2) (upM (ρ : Int) e.1.toNat e.2) e.2 f.1.toNat).isSome)
theorem chk5_ok : chk5 = true := by decide +kernel
/-- the factor is one just for the zero exponents -/
def chk6 : Bool := ES.all fun e => (rootsM e.1 e.2).all fun g => (List.range e.1.toNat).all fun y => decide (1 * upM g y e.2 % e.2 = 1) == decide (y = 0)
theorem chk6_ok : chk6 = true := by decide +kernel
def chk7 : Bool := ES.all fun e => ES.all fun f => !(decide (e.2 = f.2) && decide (e.1 < f.1)) || (rootsM e.1 e.2).all fun g => (rootsM f.1 e.2).all fun h => (List.range e.1.toNat).all fun y => (List.range f.1.toNat).all fun z =>
  decide ((1 * upM g y e.2 % e.2) * upM h z e.2 % e.2 = 1) == (decide (y = 0) && decide (z = 0))
theorem chk7_ok : chk7 = true := by decide +kernel
/-- the factor at q of an item -/
def phiW (T : Tab) (w : Int → Int) (q : Int) : Int := (moversOn T q).foldl (fun a m => a * upM (rootOf T m q) (w m).toNat q % q) 1
theorem fact_phiW {T : Tab} (hw : WF T) (y : List Int) {q : Int} (hq : q ∈ T.1) : (factM T y).getD (idx T q) 0 = phiW T (rd T y) q := by
  rw [fact_phi hw y hq, phi_movers hw] <;> rfl
/-- the item's figures are in their bounds -/
def InB (T : Tab) (w : Int → Int) : Prop := ∀ m ∈ movers T, 0 ≤ w m ∧ w m < m
theorem on_mover {T : Tab} {q m : Int} (h : m ∈ moversOn T q) : m ∈ movers T := web_mover (on_web.mp h)
theorem logs_one {T : Tab} {q r a : Int} (ha : a ≠ 0) (h : moversOn T q = [a]) : logsM T q r = if upM r a.toNat q ≠ 1 then none else some [(a, logIn (upM (rootOf T a q) 1 q) (upM r 1 q) q a.toNat)] := by
  unfold logsM
  rw [h]
  have e : prodI [a] = a := Int.one_mul a
  rw [e, List.map_cons, List.map_nil, Int.ediv_self ha] <;> rfl
theorem logs_two {T : Tab} {q r a b : Int} (ha : a ≠ 0) (hb : b ≠ 0) (h : moversOn T q = [a, b]) : logsM T q r = if upM r (a * b).toNat q ≠ 1 then none else some [(a, logIn (upM (rootOf T a q) b.toNat q) (upM r b.toNat q) q a.toNat), (b, logIn (upM (rootOf T b q) a.toNat q) (upM r a.toNat q) q b.toNat)] := by
  unfold logsM
  rw [h]
  have e : prodI [a, b] = a * b := by
    show 1 * a * b = a * b
    rw [Int.one_mul]
  rw [e, List.map_cons, List.map_cons, List.map_nil, Int.mul_ediv_cancel_left b ha, Int.mul_ediv_cancel a hb]
/-- what is known at one prime -/
theorem at_q {T : Tab} (hw : WF T) {q : Int} (hq : q ∈ moved T) (r : Int) :
    (match logsM T q (r % q) with
      | none => ∀ w, InB T w → phiW T w q ≠ r % q
      | some ls => (∀ e ∈ ls, e.1 ∈ movers T ∧ ∃ i : Nat, e.2 = some (i : Int) ∧ (i : Int) < e.1) ∧ ∀ w, InB T w → (phiW T w q = r % q ↔ ∀ e ∈ ls, e.2 = some (w e.1))) ∧
    (∀ w, InB T w → (phiW T w q = 1 ↔ ∀ m ∈ moversOn T q, w m = 0)) ∧ ∀ w, InB T w → phiW T w q % q = phiW T w q := by
  have hqT : q ∈ T.1 := (List.mem_filter.mp hq).1
  have q2 := ps_of hw hqT
  have r1 : 0 ≤ r % q := Int.emod_nonneg _ (by omega)
  have r2 : r % q < q := Int.emod_lt_of_pos _ (by omega)
  obtain ⟨ρ, hρ⟩ : ∃ ρ : Nat, r % q = (ρ : Int) := ⟨(r % q).toNat, by omega⟩
  rw [hρ] at r2 ⊢
  have hne : moversOn T q ≠ [] := fun h => by
    obtain ⟨e, he, h2⟩ := List.any_eq_true.mp (List.mem_filter.mp hq).2
    have h2 : e.2 = q := of_decide_eq_true h2
    have : e.1 ∈ moversOn T q := on_web.mpr (by rw [← h2]; exact he)
    rw [h] at this
    cases this
  rcases on_two hw q with h | ⟨a, h⟩ | ⟨a, b, h, hab⟩
  · exact absurd h hne
  · have am : a ∈ moversOn T q := by rw [h]; exact List.mem_cons_self
    obtain ⟨ae, ag⟩ := on_es hw am
    have amv := on_mover am
    have a2 := ps_of hw (mover_in hw amv)
    have ph : ∀ w, InB T w → ∃ y : Nat, w a = (y : Int) ∧ (y : Int) < a ∧ phiW T w q = 1 * upM (rootOf T a q) y q % q := fun w hb => by
      have := hb a amv
      refine ⟨(w a).toNat, by omega, by omega, ?_⟩
      unfold phiW
      rw [h] <;> rfl
    refine ⟨?_, fun w hb => ?_, fun w hb => ?_⟩
    · rw [logs_one (by omega) h]
      by_cases hu : upM (ρ : Int) a.toNat q = 1
      · rw [if_neg (fun z => z hu)]
        have c4 := List.all_eq_true.mp (List.all_eq_true.mp (List.all_eq_true.mp chk4_ok _ ae) _ ag) ρ (List.mem_range.mpr (by omega))
        dsimp only at c4
        rw [decide_eq_true hu, Bool.not_true, Bool.false_or] at c4
        obtain ⟨k, hk⟩ := Option.isSome_iff_exists.mp c4
        have kb := logIn_nn hk
        refine ⟨fun e he => ?_, fun w hb => ?_⟩
        · rw [List.mem_singleton.mp he]
          exact ⟨amv, k.toNat, by show logIn _ _ _ _ = _; rw [hk, Int.toNat_of_nonneg kb.1], by show _ < a; omega⟩
        · obtain ⟨y, y1, y2, y3⟩ := ph w hb
          rw [y3, one_at ae ag y2 r2]
          constructor
          · rintro ⟨_, z⟩ e he
            rw [List.mem_singleton.mp he]
            show logIn _ _ _ _ = some (w a)
            rw [y1]
            exact z
          · intro z
            refine ⟨hu, ?_⟩
            rw [← y1]
            exact z (a, _) List.mem_cons_self
      · rw [if_pos hu]
        intro w hb hc
        obtain ⟨y, y1, y2, y3⟩ := ph w hb
        rw [y3, one_at ae ag y2 r2] at hc
        exact hu hc.1
    · obtain ⟨y, y1, y2, y3⟩ := ph w hb
      have c := eq_of_beq (List.all_eq_true.mp (List.all_eq_true.mp (List.all_eq_true.mp chk6_ok _ ae) _ ag) y (List.mem_range.mpr (by show y < a.toNat; omega)))
      rw [decide_eq_decide] at c
      rw [y3, h]
      constructor
      · intro z m hm
        rw [List.mem_singleton.mp hm, y1, c.mp z] <;> rfl
      · intro z
        exact c.mpr (by have := z a List.mem_cons_self; omega)
    · obtain ⟨y, y1, y2, y3⟩ := ph w hb
      rw [y3, Int.emod_emod_of_dvd _ (Int.dvd_refl q)]
  · have am : a ∈ moversOn T q := by rw [h]; exact List.mem_cons_self
    have bm : b ∈ moversOn T q := by rw [h]; exact List.mem_cons_of_mem _ List.mem_cons_self
    obtain ⟨ae, ag⟩ := on_es hw am
    obtain ⟨be, bg⟩ := on_es hw bm
    have amv := on_mover am
    have bmv := on_mover bm
    have a2 := ps_of hw (mover_in hw amv)
    have b2 := ps_of hw (mover_in hw bmv)
    have ph : ∀ w, InB T w → ∃ y z : Nat, w a = (y : Int) ∧ (y : Int) < a ∧ w b = (z : Int) ∧ (z : Int) < b ∧ phiW T w q = (1 * upM (rootOf T a q) y q % q) * upM (rootOf T b q) z q % q := fun w hb => by
      have h1 := hb a amv
      have h2 := hb b bmv
      refine ⟨(w a).toNat, (w b).toNat, by omega, by omega, by omega, by omega, ?_⟩
      unfold phiW
      rw [h] <;> rfl
    have c2 : ∀ y z : Nat, (y : Int) < a → (z : Int) < b → ((1 * upM (rootOf T a q) y q % q) * upM (rootOf T b q) z q % q = (ρ : Int) ↔ (upM (ρ : Int) (a * b).toNat q = 1 ∧ logIn (upM (rootOf T a q) b.toNat q) (upM (ρ : Int) b.toNat q) q a.toNat = some (y : Int)) ∧ logIn (upM (rootOf T b q) a.toNat q) (upM (ρ : Int) a.toNat q) q b.toNat = some (z : Int)) := fun y z hy hz => by
      have c := List.all_eq_true.mp (List.all_eq_true.mp chk2_ok _ ae) _ be
      dsimp only at c
      rw [decide_eq_true (rfl : q = q), decide_eq_true hab, Bool.and_self, Bool.not_true, Bool.false_or] at c
      have c := eq_of_beq (List.all_eq_true.mp (List.all_eq_true.mp (List.all_eq_true.mp (List.all_eq_true.mp (List.all_eq_true.mp c _ ag) _ bg) y (List.mem_range.mpr (by omega))) z (List.mem_range.mpr (by omega))) ρ (List.mem_range.mpr (by omega)))
      rw [Bool.eq_iff_iff, Bool.and_eq_true, Bool.and_eq_true, decide_eq_true_eq, decide_eq_true_eq, decide_eq_true_eq, decide_eq_true_eq] at c
      exact c
    refine ⟨?_, fun w hb => ?_, fun w hb => ?_⟩
    · rw [logs_two (by omega) (by omega) h]
      by_cases hu : upM (ρ : Int) (a * b).toNat q = 1
      · rw [if_neg (fun z => z hu)]
        have c4 := List.all_eq_true.mp (List.all_eq_true.mp chk5_ok _ ae) _ be
        dsimp only at c4
        rw [decide_eq_true (rfl : q = q), decide_eq_true hab, Bool.and_self, Bool.not_true, Bool.false_or] at c4
        have c4 := List.all_eq_true.mp (List.all_eq_true.mp (List.all_eq_true.mp c4 _ ag) _ bg) ρ (List.mem_range.mpr (by omega))
        rw [decide_eq_true hu, Bool.not_true, Bool.false_or, Bool.and_eq_true] at c4
        obtain ⟨k, hk⟩ := Option.isSome_iff_exists.mp c4.1
        obtain ⟨l, hl⟩ := Option.isSome_iff_exists.mp c4.2
        have kb := logIn_nn hk
        have lb := logIn_nn hl
        refine ⟨fun e he => ?_, fun w hb => ?_⟩
        · simp only [List.mem_cons, List.not_mem_nil, or_false] at he
          rcases he with rfl | rfl
          · exact ⟨amv, k.toNat, by show logIn _ _ _ _ = _; rw [hk, Int.toNat_of_nonneg kb.1], by show _ < a; omega⟩
          · exact ⟨bmv, l.toNat, by show logIn _ _ _ _ = _; rw [hl, Int.toNat_of_nonneg lb.1], by show _ < b; omega⟩
        · obtain ⟨y, z, y1, y2, z1, z2, y3⟩ := ph w hb
          rw [y3, c2 y z y2 z2]
          constructor
          · rintro ⟨⟨_, u⟩, v⟩ e he
            simp only [List.mem_cons, List.not_mem_nil, or_false] at he
            rcases he with rfl | rfl
            · show logIn _ _ _ _ = some (w a)
              rw [y1]
              exact u
            · show logIn _ _ _ _ = some (w b)
              rw [z1]
              exact v
          · intro u
            refine ⟨⟨hu, ?_⟩, ?_⟩
            · rw [← y1]
              exact u (a, _) List.mem_cons_self
            · rw [← z1]
              exact u (b, _) (List.mem_cons_of_mem _ List.mem_cons_self)
      · rw [if_pos hu]
        intro w hb hc
        obtain ⟨y, z, y1, y2, z1, z2, y3⟩ := ph w hb
        rw [y3, c2 y z y2 z2] at hc
        exact hu hc.1.1
    · obtain ⟨y, z, y1, y2, z1, z2, y3⟩ := ph w hb
      have c := List.all_eq_true.mp (List.all_eq_true.mp chk7_ok _ ae) _ be
      dsimp only at c
      rw [decide_eq_true (rfl : q = q), decide_eq_true hab, Bool.and_self, Bool.not_true, Bool.false_or] at c
      have c := eq_of_beq (List.all_eq_true.mp (List.all_eq_true.mp (List.all_eq_true.mp (List.all_eq_true.mp c _ ag) _ bg) y (List.mem_range.mpr (by omega))) z (List.mem_range.mpr (by omega)))
      rw [Bool.eq_iff_iff, Bool.and_eq_true, decide_eq_true_eq, decide_eq_true_eq, decide_eq_true_eq] at c
      rw [y3, h]
      constructor
      · intro u m hm
        obtain ⟨u1, u2⟩ := c.mp u
        simp only [List.mem_cons, List.not_mem_nil, or_false] at hm
        rcases hm with rfl | rfl
        · rw [y1, u1] <;> rfl
        · rw [z1, u2] <;> rfl
      · intro u
        have u1 := u a List.mem_cons_self
        have u2 := u b (List.mem_cons_of_mem _ List.mem_cons_self)
        exact c.mpr ⟨by omega, by omega⟩
    · obtain ⟨y, z, y1, y2, z1, z2, y3⟩ := ph w hb
      rw [y3, Int.emod_emod_of_dvd _ (Int.dvd_refl q)]
/-! what is known together -/
def Kn (k : Ls) (w : Int → Int) : Prop := ∀ m l, getL k m = some l → l = some (w m)
def KOk (T : Tab) (k : Ls) : Prop := ∀ m l, getL k m = some l → m ∈ movers T ∧ ∃ i : Nat, l = some (i : Int) ∧ (i : Int) < m
theorem get_put (ks : Ls) (m : Int) (l : Option Int) (m' : Int) : getL (putL ks m l) m' = if m' = m then some l else getL ks m' := by
  have fm : ∀ ks : Ls, ((ks.map fun kv => if kv.1 = m then (kv.1, l) else kv).find? fun kv => decide (kv.1 = m')).map (·.2) = if m' = m ∧ (ks.any fun kv => decide (kv.1 = m)) = true then some l else (ks.find? fun kv => decide (kv.1 = m')).map (·.2) := fun ks => by
    induction ks with
    | nil => simp
    | cons x ks ih =>
      rw [List.map_cons, List.find?_cons, List.find?_cons, List.any_cons]
      by_cases h1 : x.1 = m
      · rw [if_pos h1]
        by_cases h2 : m' = m
        · rw [decide_eq_true (show x.1 = m' by omega), decide_eq_true h1, Bool.true_or, if_pos ⟨h2, rfl⟩] <;> rfl
        · rw [decide_eq_false (show ¬ x.1 = m' by omega), ih, if_neg (fun z => h2 z.1), if_neg (fun z => h2 z.1)]
      · rw [if_neg h1, decide_eq_false h1, Bool.false_or]
        by_cases h2 : x.1 = m'
        · rw [decide_eq_true h2, if_neg (fun z => h1 (by omega))]
        · rw [decide_eq_false h2, ih]
  unfold putL getL
  split
  · rename_i h
    rw [fm ks, h]
    by_cases h2 : m' = m
    · rw [if_pos ⟨h2, rfl⟩, if_pos h2]
    · rw [if_neg (fun z => h2 z.1), if_neg h2]
  · rename_i h
    rw [List.find?_append]
    have hn : ∀ x ∈ ks, ¬ x.1 = m := fun x hx hc => h (List.any_eq_true.mpr ⟨x, hx, decide_eq_true hc⟩)
    by_cases h2 : m' = m
    · subst h2
      have e : ks.find? (fun kv => decide (kv.1 = m')) = none := List.find?_eq_none.mpr fun x hx hc => hn x hx (of_decide_eq_true hc)
      rw [e, if_pos rfl, Option.none_or, List.find?_cons, decide_eq_true rfl] <;> rfl
    · rw [if_neg h2, List.find?_cons, decide_eq_false (show ¬ m = m' from fun z => h2 z.symm), List.find?_nil, Option.or_none]
theorem know_at {T : Tab} : ∀ (ls k : Ls), KOk T k → (∀ e ∈ ls, e.1 ∈ movers T ∧ ∃ i : Nat, e.2 = some (i : Int) ∧ (i : Int) < e.1) → match knowM k ls with
    | none => ∀ w, ¬ (Kn k w ∧ ∀ e ∈ ls, e.2 = some (w e.1))
    | some k' => KOk T k' ∧ ∀ w, Kn k' w ↔ (Kn k w ∧ ∀ e ∈ ls, e.2 = some (w e.1))
  | [], k, hk, _ => ⟨hk, fun w => ⟨fun h => ⟨h, nofun⟩, fun h => h.1⟩⟩
  | (m, l) :: ls, k, hk, hl => by
    rw [knowM]
    by_cases hc : (getL k m).isSome = true ∧ getL k m ≠ some l
    · rw [if_pos hc]
      rintro w ⟨h1, h2⟩
      obtain ⟨l0, e0⟩ := Option.isSome_iff_exists.mp hc.1
      have a : l = some (w m) := h2 (m, l) List.mem_cons_self
      have b := h1 m l0 e0
      exact hc.2 (by rw [e0, a, b])
    · rw [if_neg hc]
      obtain ⟨lm, li⟩ := hl (m, l) List.mem_cons_self
      have hk2 : KOk T (putL k m l) := fun m' l' h => by
        rw [get_put] at h
        by_cases e : m' = m
        · rw [if_pos e] at h
          cases h
          subst e
          exact ⟨lm, li⟩
        · rw [if_neg e] at h
          exact hk m' l' h
      have key : ∀ w, Kn (putL k m l) w ↔ (Kn k w ∧ l = some (w m)) := fun w => by
        constructor
        · intro h
          have a : l = some (w m) := h m l (by rw [get_put, if_pos rfl])
          refine ⟨fun m' l' h' => ?_, a⟩
          by_cases e : m' = m
          · subst e
            have : getL k m' = some l := Classical.not_not.mp fun z => hc ⟨by rw [h'] <;> rfl, z⟩
            rw [this] at h'
            cases h'
            exact a
          · exact h m' l' (by rw [get_put, if_neg e]; exact h')
        · rintro ⟨h, a⟩ m' l' h'
          rw [get_put] at h'
          by_cases e : m' = m
          · rw [if_pos e] at h'
            cases h'
            subst e
            exact a
          · rw [if_neg e] at h'
            exact h m' l' h'
      have ih := know_at ls (putL k m l) hk2 fun e he => hl e (List.mem_cons_of_mem _ he)
      have tail : ∀ w, (Kn (putL k m l) w ∧ ∀ e ∈ ls, e.2 = some (w e.1)) ↔ (Kn k w ∧ ∀ e ∈ (m, l) :: ls, e.2 = some (w e.1)) := fun w => by
        rw [key w]
        constructor
        · rintro ⟨⟨a, b⟩, c⟩
          refine ⟨a, fun e he => ?_⟩
          rcases List.mem_cons.mp he with rfl | z
          · exact b
          · exact c e z
        · rintro ⟨a, b⟩
          exact ⟨⟨a, b (m, l) List.mem_cons_self⟩, fun e he => b e (List.mem_cons_of_mem _ he)⟩
      split at ih
      · exact fun w z => ih w ((tail w).mpr z)
      · exact ⟨ih.1, fun w => (ih.2 w).trans (tail w)⟩
theorem know_all {T : Tab} (hw : WF T) (r : Int) : ∀ (Q : List Int) (k : Ls), KOk T k → (∀ q ∈ Q, q ∈ moved T) → match knowAll T r Q k with
    | none => ∀ w, InB T w → ¬ (Kn k w ∧ ∀ q ∈ Q, phiW T w q = r % q)
    | some k' => KOk T k' ∧ ∀ w, InB T w → (Kn k' w ↔ (Kn k w ∧ ∀ q ∈ Q, phiW T w q = r % q))
  | [], k, hk, _ => ⟨hk, fun w _ => ⟨fun h => ⟨h, nofun⟩, fun h => h.1⟩⟩
  | q :: Q, k, hk, hQ => by
    have hq := hQ q List.mem_cons_self
    have aq := (at_q hw hq r).1
    rw [knowAll]
    cases hl : logsM T q (r % q) with
    | none =>
      rw [hl] at aq
      dsimp only at aq ⊢
      exact fun w hb z => aq w hb (z.2 q List.mem_cons_self)
    | some ls =>
      rw [hl] at aq
      dsimp only at aq ⊢
      have ka := know_at ls k hk aq.1
      cases hkm : knowM k ls with
      | none =>
        rw [hkm] at ka
        dsimp only at ka ⊢
        exact fun w hb z => ka w ⟨z.1, (aq.2 w hb).mp (z.2 q List.mem_cons_self)⟩
      | some k1 =>
        rw [hkm] at ka
        dsimp only at ka ⊢
        have ih := know_all hw r Q k1 ka.1 fun x hx => hQ x (List.mem_cons_of_mem _ hx)
        have tail : ∀ w, InB T w → ((Kn k1 w ∧ ∀ q ∈ Q, phiW T w q = r % q) ↔ (Kn k w ∧ ∀ x ∈ q :: Q, phiW T w x = r % x)) := fun w hb => by
          rw [ka.2 w, ← aq.2 w hb]
          constructor
          · rintro ⟨⟨a, b⟩, c⟩
            refine ⟨a, fun x hx => ?_⟩
            rcases List.mem_cons.mp hx with rfl | z
            · exact b
            · exact c x z
          · rintro ⟨a, b⟩
            exact ⟨⟨a, b q List.mem_cons_self⟩, fun x hx => b x (List.mem_cons_of_mem _ hx)⟩
        split at ih
        · exact fun w hb z => ih w hb ((tail w hb).mpr z)
        · exact ⟨ih.1, fun w hb => (ih.2 w hb).trans (tail w hb)⟩
theorem prodI_filter (c : Int → Bool) : ∀ ms : List Int, prodI (ms.filter c) = prodF ms fun m => if c m = true then m else 1
  | [] => rfl
  | m :: ms => by
    rw [List.filter_cons, prodF]
    by_cases h : c m = true
    · rw [if_pos h, if_pos h, prodI_F, prodF, ← prodI_F, prodI_filter c ms] <;> rfl
    · rw [if_neg h, if_neg h, Int.one_mul, prodI_filter c ms]
theorem prodF_ind (c : Int → Bool) : ∀ ms : List Int, prodF ms (fun m => if c m = true then 1 else 0) = if ms.all c = true then 1 else 0
  | [] => rfl
  | m :: ms => by
    rw [prodF, prodF_ind c ms, List.all_cons]
    by_cases h : c m = true
    · rw [if_pos h, h, Bool.true_and, Int.one_mul]
    · rw [if_neg h, (Bool.not_eq_true _).mp h, Bool.false_and, Int.zero_mul] <;> rfl
theorem sum_one {m : Int} {i : Nat} (h : (i : Int) < m) : ((rngI m).map fun j => if (decide ((i : Int) = j)) = true then (1 : Int) else 0).sum = 1 := by
  have go : ∀ n : Nat, (((List.range n).map fun (j : Nat) => (j : Int)).map fun j => if (decide ((i : Int) = j)) = true then (1 : Int) else 0).sum = if i < n then 1 else 0 := fun n => by
    induction n with
    | zero => rfl
    | succ n ih =>
      rw [List.range_succ, List.map_append, List.map_append, List.sum_append, ih, List.map_cons, List.map_nil, List.map_cons, List.map_nil, List.sum_cons, List.sum_nil]
      by_cases h1 : i < n
      · rw [if_pos h1, if_neg (by simp; omega), if_pos (by omega)] <;> rfl
      · rw [if_neg h1]
        by_cases h2 : i = n
        · subst h2
          rw [if_pos (by simp), if_pos (by omega)] <;> rfl
        · rw [if_neg (by simp; omega), if_neg (by omega)] <;> rfl
  unfold rngI
  rw [go, if_pos (by omega)]
/-- the program's number of items is the number of them -/
theorem many_count {T : Tab} (hw : WF T) {Q : List Int} (hQ : ∀ q ∈ Q, q ∈ moved T) (r : Int) : manyM T Q r = sumA (movers T) (fun w => if (Q.all fun q => decide (phiW T w q = r % q)) = true then 1 else 0) fun _ => 0 := by
  have k0 : KOk T [] := fun m l h => by cases h
  have n0 : ∀ w, Kn [] w := fun w m l h => by cases h
  have ka := know_all hw r Q [] k0 hQ
  have all_iff : ∀ w, ((Q.all fun q => decide (phiW T w q = r % q)) = true ↔ ∀ q ∈ Q, phiW T w q = r % q) := fun w => by
    rw [List.all_eq_true]
    exact ⟨fun h q hq => of_decide_eq_true (h q hq), fun h q hq => decide_eq_true (h q hq)⟩
  unfold manyM
  cases hk : knowAll T r Q [] with
  | none =>
    rw [hk] at ka
    dsimp only at ka ⊢
    refine ((sumA_same fun w hb _ => ?_).trans (sumA_zero (movers T) fun _ => 0)).symm
    rw [if_neg fun z => ka w hb ⟨n0 w, (all_iff w).mp z⟩]
  | some k =>
    rw [hk] at ka
    dsimp only at ka ⊢
    obtain ⟨ok, iff⟩ := ka
    have kn : ∀ w, InB T w → (Kn k w ↔ ((movers T).all fun m => !(getL k m).isSome || decide (getL k m = some (some (w m)))) = true) := fun w _ => by
      rw [List.all_eq_true]
      constructor
      · intro h m _
        cases e : getL k m with
        | none => rfl
        | some l =>
          rw [h m l e, decide_eq_true rfl, Bool.or_true]
      · intro h m l e
        have a := h m (ok m l e).1
        rw [e] at a
        have := of_decide_eq_true (by simpa using a)
        exact Option.some.inj (by simpa using this)
    have s : sumA (movers T) (fun w => if (Q.all fun q => decide (phiW T w q = r % q)) = true then 1 else 0) (fun _ => 0) = sumA (movers T) (fun w => prodF (movers T) fun m => (fun m j => if (!(getL k m).isSome || decide (getL k m = some (some j))) = true then (1 : Int) else 0) m (w m)) fun _ => 0 := by
      refine sumA_same fun w hb _ => ?_
      show _ = prodF (movers T) fun m => if (!(getL k m).isSome || decide (getL k m = some (some (w m)))) = true then (1 : Int) else 0
      rw [prodF_ind fun m => !(getL k m).isSome || decide (getL k m = some (some (w m)))]
      have e : ((Q.all fun q => decide (phiW T w q = r % q)) = true) = (((movers T).all fun m => !(getL k m).isSome || decide (getL k m = some (some (w m)))) = true) := propext <| by
        rw [all_iff, ← kn w hb, iff w hb]
        exact ⟨fun h => ⟨n0 w, h⟩, fun h => h.2⟩
      simp only [e]
    rw [s, sumA_prod (fun m j => if (!(getL k m).isSome || decide (getL k m = some (some j))) = true then (1 : Int) else 0) (movers T) (fun _ => 0) hw.ms, prodI_filter]
    refine prodF_congr fun m hm => ?_
    have m2 := ps_of hw (mover_in hw hm)
    cases e : getL k m with
    | none =>
      show m = ((rngI m).map fun j => (1 : Int)).sum
      rw [sum_const]
      unfold rngI
      rw [List.length_map, List.length_range]
      omega
    | some l =>
      obtain ⟨_, i, hi, hi2⟩ := ok m l e
      subst hi
      show (1 : Int) = _
      refine (sum_one hi2).symm.trans (congrArg List.sum (List.map_congr_left fun j _ => ?_))
      have : decide ((some (some (i : Int)) : Option (Option Int)) = some (some j)) = decide ((i : Int) = j) := decide_eq_decide.mpr ⟨fun h => Option.some.inj (Option.some.inj h), fun h => by rw [h]⟩
      show _ = if (!true || decide ((some (some (i : Int)) : Option (Option Int)) = some (some j))) = true then (1 : Int) else 0
      rw [this] <;> rfl
end Wa
set_option maxHeartbeats 4000000
/-! Plain laws: the law's twisted count is the program's. -/
namespace Wa
open PySem PySem.Spec PyProof.Rows L2
def pmB : Bool := PS.all fun p => (List.range p.toNat).all fun (w : Nat) => (List.range p.toNat).all fun (s : Nat) => decide ((w : Int) * (s : Int) % p = 0) == (decide (w = 0) || decide (s = 0))
theorem pmB_ok : pmB = true := by decide +kernel
theorem ps_mul {p : Int} (hp : p ∈ PS) {w : Int} (h : 0 ≤ w ∧ w < p) (s : Int) : w * s % p = 0 ↔ w = 0 ∨ s % p = 0 := by
  have p2 := ps_lo hp
  have s1 : 0 ≤ s % p := Int.emod_nonneg _ (by omega)
  have s2 : s % p < p := Int.emod_lt_of_pos _ (by omega)
  have c := eq_of_beq (List.all_eq_true.mp (List.all_eq_true.mp (List.all_eq_true.mp pmB_ok p hp) w.toNat (List.mem_range.mpr (by omega))) (s % p).toNat (List.mem_range.mpr (by omega)))
  rw [Int.toNat_of_nonneg h.1, Int.toNat_of_nonneg s1, Bool.eq_iff_iff, Bool.or_eq_true, decide_eq_true_eq, decide_eq_true_eq, decide_eq_true_eq] at c
  rw [Int.mul_emod, Int.emod_eq_of_lt h.1 h.2, c]
  constructor <;> intro h <;> omega
theorem is_moved {T : Tab} {p : Int} : isMoved T p = true ↔ p ∈ mvL T := by
  unfold isMoved mvL
  rw [mem_sortU, List.mem_map, List.any_eq_true]
  exact ⟨fun ⟨e, he, h⟩ => ⟨e, he, of_decide_eq_true h⟩, fun ⟨e, he, h⟩ => ⟨e, he, decide_eq_true h⟩⟩
theorem is_mover {T : Tab} (hw : WF T) {p : Int} : isMover T p = true ↔ p ∈ movers T := by
  unfold isMover
  rw [List.any_eq_true]
  constructor
  · rintro ⟨e, he, h⟩
    rw [← of_decide_eq_true h]
    exact web_mover he
  · intro h
    have wm := row_wf hw h
    obtain ⟨e, he⟩ := List.exists_mem_of_ne_nil _ wm.ne
    exact ⟨(p, e.1), mem_web.mpr ⟨_, rowOf_mem h, e, he, rfl⟩, decide_eq_true rfl⟩
theorem moved_mvL {T : Tab} (hw : WF T) : moved T = mvL T := by
  refine sorted_same (hw.ps.sublist List.filter_sublist) (sortU_sorted _) fun k => ?_
  unfold moved
  rw [List.mem_filter, is_moved]
  exact ⟨fun h => h.2, fun h => ⟨mvL_in hw k h, h⟩⟩
/-- one pair of items, by their figures -/
def hereF (T : Tab) (r : Int) (w z : Int → Int) : Int := prodF (moved T) fun q => if phiW T w q = 1 ∧ (phiW T z q - r) % q = 0 then q * q else q
theorem here_F {T : Tab} (hw : WF T) (r : Int) (y z : List Int) : hereM T r (factM T y) (factM T z) = hereF T r (rd T y) (rd T z) := by
  unfold hereM hereF
  have e : ∀ a q, stepH T r (factM T y) (factM T z) a q = a * (fun q => if (factM T y).getD (idx T q) 0 = 1 ∧ ((factM T z).getD (idx T q) 0 - r) % q = 0 then q * q else q) q := fun _ _ => rfl
  have e2 : (mvL T).foldl (stepH T r (factM T y) (factM T z)) 1 = (mvL T).foldl (fun a q => a * (fun q => if (factM T y).getD (idx T q) 0 = 1 ∧ ((factM T z).getD (idx T q) 0 - r) % q = 0 then q * q else q) q) 1 := rfl
  rw [e2, foldl_prodF, Int.one_mul, moved_mvL hw]
  refine prodF_congr fun q hq => ?_
  rw [fact_phiW hw y (mvL_in hw q hq), fact_phiW hw z (mvL_in hw q hq)]
def okW (T : Tab) (r : Int) (w : Int → Int) : Bool := T.1.all fun p => decide (w p * (r - 1) % p = 0)
theorem ok_W {T : Tab} (hw : WF T) (r : Int) (y : List Int) : okY T r y = okW T r (rd T y) := by
  have nd : T.1.Nodup := hw.ps.imp fun h => by omega
  unfold okY okW
  rw [Bool.eq_iff_iff, decide_eq_true_eq, List.filter_eq_nil_iff, List.all_eq_true]
  constructor
  · intro h p hp
    have hi := idx_lt hp
    have a := h (idx T p) (List.mem_range.mpr hi)
    have e : T.1.getD (idx T p) 0 = p := by
      rw [List.getD_eq_getElem?_getD, List.getElem?_eq_getElem hi]
      exact List.getElem_idxOf hi
    rw [e] at a
    have : y.getD (idx T p) 0 * (r - 1) % p = 0 := by simpa using a
    exact decide_eq_true this
  · intro h k hk
    have hk := List.mem_range.mp hk
    have e : T.1.getD k 0 = T.1[k] := by
      rw [List.getD_eq_getElem?_getD, List.getElem?_eq_getElem hk] <;> rfl
    have a := of_decide_eq_true (h T.1[k] (List.getElem_mem hk))
    unfold rd at a
    have i : idx T T.1[k] = k := nd.idxOf_getElem k hk
    rw [i] at a
    rw [e, decide_eq_true a]
    exact Bool.false_ne_true
theorem prodF_filter (c : Int → Bool) (g : Int → Int) : ∀ ms : List Int, prodF (ms.filter c) g = prodF ms fun m => if c m = true then g m else 1
  | [] => rfl
  | m :: ms => by
    rw [List.filter_cons, prodF]
    by_cases h : c m = true
    · rw [if_pos h, if_pos h, prodF, prodF_filter c g ms]
    · rw [if_neg h, if_neg h, Int.one_mul, prodF_filter c g ms]
theorem prodF_mul (f g : Int → Int) : ∀ ms : List Int, prodF ms (fun m => f m * g m) = prodF ms f * prodF ms g
  | [] => rfl
  | m :: ms => by
    rw [prodF, prodF, prodF, prodF_mul f g ms]
    ac_rfl
/-- the rest of the product, by subsets -/
theorem here_sum {T : Tab} (r : Int) (w z : Int → Int) (hz : ∀ q ∈ moved T, phiW T z q % q = phiW T z q) : hereF T r w z = prodI (moved T) * ((subsets ((moved T).filter fun q => decide (phiW T w q = 1))).map fun Q => weight Q * (if (Q.all fun q => decide (phiW T z q = r % q)) = true then 1 else 0)).sum := by
  rw [← expand, foldl_prodF, Int.one_mul, prodF_filter, prodI_F, ← prodF_mul]
  unfold hereF
  refine prodF_congr fun q hq => ?_
  have e : (phiW T z q - r) % q = 0 ↔ phiW T z q = r % q := by
    rw [← Int.emod_eq_emod_iff_emod_sub_eq_zero, hz q hq]
  show _ = q * _
  by_cases h1 : phiW T w q = 1 <;> by_cases h2 : phiW T z q = r % q
  · rw [if_pos ⟨h1, e.mpr h2⟩, if_pos (decide_eq_true h1), if_pos (decide_eq_true h2)]
  · rw [if_neg (fun x => h2 (e.mp x.2)), if_pos (decide_eq_true h1), if_neg (fun x => h2 (of_decide_eq_true x)), Int.mul_one]
  · rw [if_neg (fun x => h1 x.1), if_neg (fun x => h1 (of_decide_eq_true x)), Int.mul_one]
  · rw [if_neg (fun x => h1 x.1), if_neg (fun x => h1 (of_decide_eq_true x)), Int.mul_one]
theorem row_sum {T : Tab} (hw : WF T) (r : Int) (w : Int → Int) (hb : InB T w) : sumA (movers T) (hereF T r w) (fun _ => 0) = prodI (moved T) * rowsM T r ((movers T).filter fun m => !decide (w m = 0)) := by
  have e : sumA (movers T) (hereF T r w) (fun _ => 0) = sumA (movers T) (fun z => prodI (moved T) * ((subsets ((moved T).filter fun q => decide (phiW T w q = 1))).map fun Q => weight Q * (if (Q.all fun q => decide (phiW T z q = r % q)) = true then 1 else 0)).sum) fun _ => 0 :=
    sumA_same fun z hz _ => here_sum r w z fun q hq => (at_q hw hq r).2.2 z hz
  rw [e, sumA_mul, sumA_list]
  congr 1
  unfold rowsM
  have f : ((moved T).filter fun q => decide (phiW T w q = 1)) = otherM T (struck T ((movers T).filter fun m => !decide (w m = 0))) := by
    unfold otherM
    refine List.filter_congr fun q hq => ?_
    rw [Bool.eq_iff_iff, decide_eq_true_eq, (at_q hw hq r).2.1 w hb, Bool.not_eq_true', decide_eq_false_iff_not]
    unfold struck
    rw [List.mem_filter, List.any_eq_true]
    constructor
    · rintro h ⟨_, m, hm, hc⟩
      have hc := (List.mem_filter.mp (of_decide_eq_true hc)).2
      rw [h m hm, decide_eq_true rfl] at hc
      cases hc
    · intro h m hm
      refine Classical.not_not.mp fun hc => h ⟨hq, m, hm, decide_eq_true (List.mem_filter.mpr ⟨on_mover hm, ?_⟩)⟩
      rw [decide_eq_false hc] <;> rfl
  rw [f]
  refine congrArg List.sum (List.map_congr_left fun Q hQ => ?_)
  rw [sumA_mul, many_count hw fun q hq => (List.mem_filter.mp ((subsets_sub _ Q hQ).subset hq)).1]
theorem ok_free {T : Tab} (hw : WF T) (r : Int) {w : Int → Int} (hb : InB T w) (h0 : ∀ p, p ∉ movers T → w p = 0) : okW T r w = (movers T).all fun m => decide (w m = 0) || decide ((r - 1) % m = 0) := by
  unfold okW
  rw [Bool.eq_iff_iff, List.all_eq_true, List.all_eq_true]
  constructor
  · intro h m hm
    have hm1 := mover_in hw hm
    have := (ps_mul (hw.pin m hm1) (hb m hm) (r - 1)).mp (of_decide_eq_true (h m hm1))
    rw [Bool.or_eq_true, decide_eq_true_eq, decide_eq_true_eq]
    exact this
  · intro h p hp
    refine decide_eq_true ?_
    by_cases hm : p ∈ movers T
    · have := h p hm
      rw [Bool.or_eq_true, decide_eq_true_eq, decide_eq_true_eq] at this
      exact (ps_mul (hw.pin p hp) (hb p hm) (r - 1)).mpr this
    · rw [h0 p hm, Int.zero_mul, Int.zero_emod]
theorem all_sum {T : Tab} (hw : WF T) (r : Int) : ((itemsM T).map (rowT T r)).sum = prodI (moved T) * ((subsets (freeM T r)).map fun M => weight M * rowsM T r M).sum := by
  have e1 : ((itemsM T).map (rowT T r)).sum = sumA (movers T) (fun w => if okW T r w = true then sumA (movers T) (hereF T r w) (fun _ => 0) else 0) fun _ => 0 := by
    rw [← items_sum hw fun w => if okW T r w = true then sumA (movers T) (hereF T r w) (fun _ => 0) else 0]
    refine congrArg List.sum (List.map_congr_left fun y _ => ?_)
    unfold rowT
    rw [ok_W hw, ← items_sum hw (hereF T r (rd T y))]
    have : (itemsM T).map (fun z => hereM T r (factM T y) (factM T z)) = (itemsM T).map fun z => hereF T r (rd T y) (rd T z) := List.map_congr_left fun z _ => here_F hw r y z
    rw [this]
  have e2 : sumA (movers T) (fun w => if okW T r w = true then sumA (movers T) (hereF T r w) (fun _ => 0) else 0) (fun _ => 0) = sumA (movers T) (fun w => if ((movers T).all fun m => decide (w m = 0) || decide ((r - 1) % m = 0)) = true then (fun M => prodI (moved T) * rowsM T r M) ((movers T).filter fun m => !decide (w m = 0)) else 0) fun _ => 0 :=
    sumA_same fun w hb h0 => by
      rw [ok_free hw r hb h0, row_sum hw r w hb]
  rw [e1, e2, supp_sum (fun m => decide ((r - 1) % m = 0)) (movers T) (fun M => prodI (moved T) * rowsM T r M) (fun _ => 0) hw.ms fun m hm => by have := ps_of hw (mover_in hw hm); omega, ← SS_sum _ _ _ rfl]
  have g := sum_mul_left (prodI (moved T)) ((subsets (freeM T r)).map fun M => weight M * rowsM T r M)
  rw [← g, List.map_map]
  refine congrArg List.sum (List.map_congr_left fun M _ => ?_)
  exact Int.mul_left_comm _ _ _
theorem tw_same {T : Tab} (hw : WF T) (r : Int) : twistM T r = twL T r := by
  unfold twL twistM
  have e1 : T.1.foldl (lastF T r) ((itemsM T).map (rowT T r)).sum = T.1.foldl (fun a p => a * (fun p => if p ∉ movers T ∧ p ∉ mvL T then (if (r - 1) % p = 0 then p * p else p) else 1) p) ((itemsM T).map (rowT T r)).sum := by
    congr 1
    funext a p
    unfold lastF
    by_cases h : p ∉ movers T ∧ p ∉ mvL T
    · rw [if_pos h]
      show _ = a * (if _ then _ else _)
      rw [if_pos h]
    · rw [if_neg h]
      show _ = a * (if _ then _ else _)
      rw [if_neg h, Int.mul_one]
  have e2 : ∀ X, (still T).foldl (stillF r) X = (still T).foldl (fun a p => a * (fun p => if (r - 1) % p = 0 then p * p else p) p) X := fun _ => rfl
  rw [e1, foldl_prodF, e2, foldl_prodF, all_sum hw r]
  have e3 : prodF (still T) (fun p => if (r - 1) % p = 0 then p * p else p) = prodF T.1 fun p => if p ∉ movers T ∧ p ∉ mvL T then (if (r - 1) % p = 0 then p * p else p) else 1 := by
    unfold still
    rw [prodF_filter]
    refine prodF_congr fun p _ => ?_
    have : ((!(isMover T p || isMoved T p)) = true) = (p ∉ movers T ∧ p ∉ mvL T) := propext <| by
      rw [Bool.not_eq_true', Bool.or_eq_false_iff, ← is_mover hw, ← is_moved, Bool.not_eq_true, Bool.not_eq_true]
    simp only [this]
  rw [e3]
  ac_rfl
end Wa
set_option maxHeartbeats 4000000
/-! Plain laws: alike tables have the same twisted counts. -/
namespace Wa
open PySem PySem.Spec PyProof.Rows L2
def esPerm : Bool := ES.all fun e => (List.range e.1.toNat).all fun (k : Nat) => decide (k = 0) || ((rngI e.1).map fun i => i * (k : Int) % e.1).isPerm (rngI e.1)
theorem esPerm_ok : esPerm = true := by decide +kernel
theorem es_perm {e : Int × Int} (h : e ∈ ES) {k : Nat} (k1 : 1 ≤ k) (k2 : (k : Int) < e.1) : ((rngI e.1).map fun i => i * (k : Int) % e.1).Perm (rngI e.1) := by
  have a := List.all_eq_true.mp (List.all_eq_true.mp esPerm_ok e h) k (List.mem_range.mpr (by omega))
  rw [decide_eq_false (show ¬ k = 0 by omega), Bool.false_or] at a
  exact List.isPerm_iff.mp a
theorem foldl_same {α β : Type} {f g : α → β → α} : ∀ {xs : List β} {a : α}, (∀ a, ∀ x ∈ xs, f a x = g a x) → xs.foldl f a = xs.foldl g a
  | [], _, _ => rfl
  | x :: xs, a, h => by
    rw [List.foldl_cons, List.foldl_cons, h a x List.mem_cons_self]
    exact foldl_same fun b y hy => h b y (List.mem_cons_of_mem _ hy)
theorem movers_web {T R : Tab} (hw : WF T) (hv : WF R) (e : web T = web R) : movers T = movers R := by
  refine sorted_same hw.ms hv.ms fun k => ?_
  show k ∈ movers T ↔ k ∈ movers R
  rw [← is_mover hw, ← is_mover hv]
  unfold isMover
  rw [e]
theorem moved_web {T R : Tab} (hp : T.1 = R.1) (e : web T = web R) : moved T = moved R := by
  unfold moved isMoved
  rw [hp, e]
theorem still_web {T R : Tab} (hp : T.1 = R.1) (e : web T = web R) : still T = still R := by
  unfold still isMoved isMover
  rw [hp, e]
theorem on_web_eq {T R : Tab} (e : web T = web R) (q : Int) : moversOn T q = moversOn R q := by
  unfold moversOn
  rw [e]
theorem many_alike {T R : Tab} (hw : WF T) (hv : WF R) (a : Alike T R) {Q : List Int} (hQ : ∀ q ∈ Q, q ∈ moved T) (r : Int) : manyM T Q r = manyM R Q r := by
  have em := movers_web hw hv a.wb
  obtain ⟨k, hk⟩ : ∃ k : Int → Nat, ∀ m, m ∈ movers T → 1 ≤ k m ∧ ((k m : Nat) : Int) < m ∧ rowOf T m = rowP (rowOf R m) (k m) := by
    have h : ∀ m : Int, ∃ k : Nat, m ∈ movers T → 1 ≤ k ∧ (k : Int) < m ∧ rowOf T m = rowP (rowOf R m) k := ?_
    · exact ⟨fun m => Classical.choose (h m), fun m => Classical.choose_spec (h m)⟩
    intro m
    by_cases hm : m ∈ movers T
    · obtain ⟨k, k1, k2, k3⟩ := a.rw m hm
      exact ⟨k, fun _ => ⟨k1, k2, k3⟩⟩
    · exact ⟨0, fun h => absurd h hm⟩
  rw [many_count hw hQ, many_count hv (fun q hq => by rw [← moved_web a.ps a.wb]; exact hQ q hq), ← em]
  have perm := sumA_perm (fun m i => i * ((k m : Nat) : Int) % m) (fun w => if (Q.all fun q => decide (phiW R w q = r % q)) = true then (1 : Int) else 0) (movers T) (fun _ => 0) hw.ms fun m hm => by
    obtain ⟨k1, k2, _⟩ := hk m hm
    have wm := row_wf hw hm
    obtain ⟨e, he⟩ := List.exists_mem_of_ne_nil _ wm.ne
    exact es_perm (e := (m, e.1)) (wm.ed e he).2.1 k1 k2
  rw [← perm]
  refine sumA_same fun w hb _ => ?_
  have ph : ∀ q, phiW T w q = phiW R (fun p => if p ∈ movers T then w p * ((k p : Nat) : Int) % p else w p) q := fun q => by
    unfold phiW
    rw [← on_web_eq a.wb q]
    refine foldl_same fun b m hm => ?_
    have hmv := on_mover hm
    dsimp only
    rw [if_pos hmv]
    obtain ⟨k1, k2, k3⟩ := hk m hmv
    obtain ⟨ae, ag⟩ := on_es hv (by rw [← on_web_eq a.wb q]; exact hm)
    obtain ⟨e, he, hq⟩ := web_row hv (by rw [← a.wb]; exact on_web.mp hm)
    have wR := row_wf hv (em ▸ hmv)
    have wT := row_wf hw hmv
    have rR : rootOf R m q = e.2 := by
      rw [← hq]
      exact rootOf_at wR.so he
    have rT : rootOf T m q = upM e.2 (k m) q := by
      have hin : (e.1, upM e.2 (k m) e.1) ∈ rowOf T m := by
        rw [k3]
        exact List.mem_map.mpr ⟨e, he, rfl⟩
      have := rootOf_at wT.so hin
      rw [← hq]
      exact this
    have b1 := hb m hmv
    have mul := (es_mul ae ag).2 (k m) (w m).toNat k2 (by show _ < m; omega)
    dsimp only at mul
    rw [rT, ← rR, mul]
    congr 2
    have : (w m * ((k m : Nat) : Int) % m).toNat = k m * (w m).toNat % m.toNat := by
      obtain ⟨y, hy⟩ : ∃ y : Nat, w m = (y : Int) := ⟨(w m).toNat, by omega⟩
      obtain ⟨n, hn⟩ : ∃ n : Nat, m = (n : Int) := ⟨m.toNat, by omega⟩
      have hm2 : ∀ x : Nat, w m = (y : Int) → (w m * (x : Int) % m).toNat = x * (w m).toNat % m.toNat := fun x h => by
        rw [h]
        generalize m = mm at hn
        rw [hn, Int.toNat_natCast, Int.toNat_natCast, ← Int.natCast_mul, ← Int.natCast_emod, Int.toNat_natCast, Nat.mul_comm]
      exact hm2 (k m) hy
    rw [this]
  have e : (Q.all fun q => decide (phiW T w q = r % q)) = Q.all fun q => decide (phiW R (fun p => if p ∈ movers T then w p * ((k p : Nat) : Int) % p else w p) q = r % q) := by
    congr 1
    funext q
    rw [ph q]
  rw [e]
theorem tw_alike {T R : Tab} (hw : WF T) (hv : WF R) (a : Alike T R) (r : Int) : twistM T r = twistM R r := by
  have em := movers_web hw hv a.wb
  have ed := moved_web a.ps a.wb
  have es := still_web a.ps a.wb
  have rows : ∀ M, rowsM T r M = rowsM R r M := fun M => by
    unfold rowsM
    have eo : otherM T (struck T M) = otherM R (struck R M) := by
      unfold otherM struck
      rw [ed]
      have : (fun q => (moversOn T q).any fun p => decide (p ∈ M)) = fun q => (moversOn R q).any fun p => decide (p ∈ M) := funext fun q => by rw [on_web_eq a.wb]
      rw [this]
    rw [← eo]
    refine congrArg List.sum (List.map_congr_left fun Q hQ => ?_)
    rw [many_alike hw hv a fun q hq => (List.mem_filter.mp ((subsets_sub _ Q hQ).subset hq)).1]
  unfold twistM
  have ef : freeM T r = freeM R r := by
    unfold freeM
    rw [em]
  have : (fun M => weight M * rowsM T r M) = fun M => weight M * rowsM R r M := funext fun M => by rw [rows]
  rw [es, ed, ef, this]
end Wa
set_option maxHeartbeats 4000000
/-! Plain laws: all that the law asks. -/
namespace Wa
open PySem PySem.Spec PyProof.Rows L2
theorem good : Good := fun T R hT hR hp => by
  have hw := hT.w
  have hv := hR.w
  exact ⟨told_ok hw hv hp.symm, pair_ok hw hv hp.symm, pair_ok hv hw hp, ⟨hp.symm, fun s => congrArg prodI (outM_eq hw s), fun s => congrArg prodI (outM_eq hv s), fun s _ => out_r1 hw hv s, fun r _ _ => tw_same hw r, fun r _ _ => tw_same hv r, fun h r _ _ => by rw [← tw_same hw, ← tw_same hv, tw_alike hw hv ((aliL_iff hw hv).mp h)], fun r _ _ => count_r2 hT hR r⟩⟩
end Wa
set_option maxHeartbeats 4000000
/-! The end: the law's def called while nothing is being shown. -/
namespace Wa
open PySem PySem.Spec PyProof.Rows L2
section
variable {P : Program} {w : World} {K : PySem.W.Frag} {mg mb : Str → Option Value} {k : Nat} {fa a : Addr} {fd : FuncData} {x : Str} {sp : Sp} {t : Shared} {us : List Value} {ns : List Int}
/-- what holds of a call of the law -/
abbrev Told (P : Program) (w : World) (t : Shared) (fa a : Addr) : Prop := codeAny (model P w) callerA (.call (.ref fa) ⟨[.ref a], []⟩)
  (fun r t' => r = .ok (.ret (.bool true)) ∧ OldK t.heap t'.heap ∧ t'.os = t.os ∧ AllBare t'.gens) t
/-- the abstract heap H may hold the script alone, as known to the object -/
structure Bare (K : PySem.W.Frag) (H : Hp) (a : Addr) : Prop where
  at_ : ∀ b u, H b = some u → b = a ∧ K.lookup b = none ∧ ∃ o xs, u = HO.frz o (.lst xs)
theorem Bare.off {H : Hp} (h : Bare K H a) {b : Addr} {o : Obj} (e : K.lookup b = some o) : H b = none := by
  cases q : H b with
  | none => rfl
  | some u =>
    have z := (h.at_ b u q).2.1
    rw [e] at z
    cases z
theorem Bare.dict {H : Hp} (h : Bare K H a) {oa : Obj} (ea : t.heap.get? a = some oa) {b : Addr} {o : Obj} {es : Array DictEntry} {n m : Nat} {vs : Array Value} (d1 : oa.data = .seq vs m) (e : t.heap.get? b = some o) (d2 : o.data = .dict es n) : H b = none := by
  cases q : H b with
  | none => rfl
  | some u =>
    obtain ⟨rfl, _⟩ := h.at_ b u q
    rw [e] at ea
    cases ea
    rw [d1] at d2
    cases d2
theorem told_core {H : Hp} (h : Bare K H a) (hS : SqL K H a (ns.map V.int)) (hok : HOk P w H t.heap)
    (kin : K.In t.heap) (gn : t.heap.Ns mainGlobals mg) (bn : t.heap.Ns builtinsNs mb) (bb : ∀ y : Str, y ≠ "__name__" → mb y = bootBuiltins y) (nl : t.heap.NoLimit) (g0 : t.gens = #[])
    (ea : t.heap.get? a = some { cls := .type "list", data := .seq us.toArray }) (rm : Room k callerA)
    (F : ∀ b0 : Heap, K.In b0 → b0.Ns mainGlobals mg → FnG P w K mg b0 k fa fd [x] sp) (bd : ∀ (s : Shared) (u : Value), BindsTo s fd ⟨[u], []⟩ [(x, u)])
    (pr : ∀ H : Hp, SqL K H a (ns.map V.int) → sp [.ref a] H (fun v _ => v = .bl true) fun _ _ _ => False) : Told P w t fa a := by
  have names : ∀ {b : Addr} {m : Str → Option Value}, t.heap.Ns b m → (hidT t.heap H).Ns b m := by
    rintro b m ⟨o, es, n, e, d, z⟩
    exact ⟨o, es, n, hidT_get e (h.dict ea rfl e d), d, z⟩
  have kin0 : K.In (hidT t.heap H) := fun b o e => hidT_get (kin b o e) (h.off e)
  obtain ⟨mc, c1, c2⟩ := nl
  have start : Env0 P w K mg (hidT t.heap H) callerA [] t H := by
    refine ⟨rfl, ⟨kin0, names gn, ⟨mb, names bn, bb⟩, ⟨mc, names c1, c2⟩⟩, fun b o e => of_hidT e, Nat.le_of_eq (hidT_size _ _), trivial, fun b hb => ?_, hok, .of_eq g0⟩
    have z : b ∈ ([] : List Addr) := hb
    cases z
  have ran := (F _ kin0 (names gn)).run callerA [] t H ⟨[.ref a], []⟩ [.ref a] [.ref a] _ _ rfl rm start (bd t (.ref a)) (.cons rfl .nil) (pr H hS)
  refine codeAny_mono ran fun r t' res => ?_
  match r, res with
  | .ok (.ret u), ⟨v, H2, os, bare, un, hok2, rv, ev⟩ =>
    have ev : v = .bl true := ev
    subst ev
    have eu : u = Value.bool true := rv
    subst eu
    refine ⟨rfl, .of_keep fun b o e => ?_, os, bare⟩
    cases q : H b with
    | none =>
      refine un.keep b o e q (fun z => ?_) (by simp)
      have z : b ∈ ([] : List Addr) := z
      cases z
    | some u =>
      obtain ⟨_, _, ob, xs, rfl⟩ := h.at_ b u q
      have q2 := un.frzs b ob _ q
      obtain ⟨e1, _⟩ := hok b _ q
      obtain ⟨e2, _⟩ := hok2 b _ q2
      rw [e] at e1
      cases e1
      exact e2
theorem told_call (kin : K.In t.heap) (gn : t.heap.Ns mainGlobals mg) (bn : t.heap.Ns builtinsNs mb) (bb : ∀ y : Str, y ≠ "__name__" → mb y = bootBuiltins y) (nl : t.heap.NoLimit) (g0 : t.gens = #[])
    (ea : t.heap.get? a = some { cls := .type "list", data := .seq us.toArray }) (ia : IntsAre us ns) (la : ns.length ≤ sizeLine) (rm : Room k callerA)
    (F : ∀ b0 : Heap, K.In b0 → b0.Ns mainGlobals mg → FnG P w K mg b0 k fa fd [x] sp) (bd : ∀ (s : Shared) (u : Value), BindsTo s fd ⟨[u], []⟩ [(x, u)])
    (pr : ∀ H : Hp, SqL K H a (ns.map V.int) → sp [.ref a] H (fun v _ => v = .bl true) fun _ _ _ => False) : Told P w t fa a := by
  have vv := vals_ints ia
  have len := ia.length
  by_cases hk : ∃ o, K.lookup a = some o
  · obtain ⟨o, hk⟩ := hk
    have e := kin a o hk
    rw [ea] at e
    cases e
    refine told_core (H := fun _ => none) ⟨fun b u z => nomatch z⟩ (.inr ⟨_, us.toArray, _, hk, rfl, rfl, rfl, ?_, ?_⟩) (fun b u z => nomatch z) kin gn bn bb nl g0 ea rm F bd pr
    · rw [List.size_toArray, len]
      exact la
    · rw [List.toList_toArray]
      exact vv
  · have hk : K.lookup a = none := by
      cases q : K.lookup a with
      | none => rfl
      | some o => exact absurd ⟨o, q⟩ hk
    have one : ∀ b u, (if b = a then some (HO.frz { cls := .type "list", data := .seq us.toArray } (.lst (ns.map V.int))) else none) = some u → b = a ∧ u = HO.frz { cls := .type "list", data := .seq us.toArray } (.lst (ns.map V.int)) := fun b u z => by
      by_cases hb : b = a
      · rw [if_pos hb] at z
        exact ⟨hb, (Option.some.inj z).symm⟩
      · rw [if_neg hb] at z
        cases z
    refine told_core (H := fun b => if b = a then some (.frz { cls := .type "list", data := .seq us.toArray } (.lst (ns.map V.int))) else none) ⟨fun b u z => ?_⟩ (.inl (.inr ⟨_, if_pos rfl⟩)) (fun b u z => ?_) kin gn bn bb nl g0 ea rm F bd pr
    · obtain ⟨rfl, rfl⟩ := one b u z
      exact ⟨rfl, hk, _, _, rfl⟩
    · obtain ⟨rfl, rfl⟩ := one b u z
      refine ⟨ea, ?_, us, _, vv, ea⟩
      rw [List.length_map]
      exact la
end
/-- the walk of the law's row from its promise -/
theorem walk_G {l : PySem.W.OpenLaw} {n k : Nat} {q : Program} {loose : List Str} {XP : (Str → Option Value) → Heap → Prop} {YP : World → Heap → Prop} {d : DefRec} {x : Str}
    (hn : l.most = some n) (hz : n ≤ sizeLine) (hdf : d.params.defaults = []) (rm : Room k callerA)
    (F : ∀ (w : World) (mg : Str → Option Value) (fa : Addr) (h : Heap), YP w h → h.Ns mainGlobals mg → mg d.name = some (.ref fa) →
      ∃ (K : PySem.W.Frag) (fd : FuncData) (sp : Sp), K.In h ∧ (∀ (s : Shared) (u : Value), BindsTo s fd ⟨[u], []⟩ [(x, u)]) ∧
        (∀ (H : Hp) (a : Addr) (ns : List Int), SqL K H a (ns.map V.int) → sp [.ref a] H (fun v _ => v = .bl true) fun _ _ _ => False) ∧
        ∀ b0 : Heap, K.In b0 → b0.Ns mainGlobals mg → FnG l.prog w K mg b0 k fa fd [x] sp) :
    PySem.W.WalkO q loose XP YP l.row.toRowW d [] (fun f vs => PySem.call f vs) := by
  refine Att.attach_call hn hdf fun w _ t mg mb fa _ _ _ _ a us ns G Y _ _ _ hmg ea ia la g0 => ?_
  obtain ⟨K, fd, sp, kin, bd, pr, run⟩ := F w mg fa _ Y G.T.g hmg
  exact told_call kin G.T.g G.T.b G.T.builtins G.T.nolimit g0 ea ia (Nat.le_trans la hz) rm run bd fun H hS => pr H a ns hS
/-! defs read off the head's facts -/
theorem fun_ofD {K : PySem.W.Frag} {x : Str} {st : Stmt} {f : Addr} {fd : FuncData} (F : FunD K x x (defArgs st) (defBody st) (defScope st) [] [] f fd) : Fun K x x st f fd := by
  obtain ⟨⟨oc, od, dV, kV, doc, pm, an, cdv, ct, osl, e, l, c, dd, _⟩, kp⟩ := F
  rcases dd with ⟨_, rfl⟩ | ⟨z, _⟩
  · exact ⟨⟨oc, od, kV, doc, pm, an, cdv, ct, osl, e, l, c⟩, kp⟩
  · exact absurd rfl z
section
variable {P : Program} {w : World} {K : PySem.W.Frag} {mg : Str → Option Value} {base : Heap} {f : Addr} {fd : FuncData} {x : Str} {st : Stmt} {ps : List Str} {k : Nat} {sp : Sp}
theorem dOf (F : Fun K x x st f fd) (m : mg x = some (.ref f)) (b : Binds K fd ps []) (ok : FnOk P w K mg base CX0 k f fd ps sp) : Def P w K mg base x ps [] k sp := ⟨f, fd, [], ok, m, F.kp, b, .nil⟩
theorem dOfG (F : Fun K x x st f fd) (m : mg x = some (.ref f)) (b : Binds K fd ps []) (ok : FnG P w K mg base k f fd ps sp) : DefG P w K mg base x ps k sp := ⟨f, fd, ok, m, F.kp, b⟩
theorem kb_part (F : Fun K "part_count" "part_count" s_part_count f fd) : KBinds K fd ["table", "primes"] ["primes", "table"] swapK swapK := by
  obtain ⟨oc, od, kV, doc, pm, an, cdv, ct, osl, rfl, _, _⟩ := F.ex
  refine ⟨fun s us ws _ hl => ?_, fun {vs us zs ws} r1 r2 => ?_⟩
  · match us, ws, hl with
    | [], [a, b], _ => exact .of_eq rfl
    | [], [], hl => cases hl
    | [], [_], hl => cases hl
    | [], _ :: _ :: _ :: _, hl => cases hl
    | _ :: _, _, hl => cases hl
  · cases r1 with
    | nil =>
      match zs, ws, r2 with
      | [], [], _ => exact .nil
      | [_], [_], _ => exact .nil
      | [_, _], [_, _], .cons a (.cons b .nil) => exact .cons b (.cons a .nil)
      | _ :: _ :: _ :: _, _ :: _ :: _ :: _, _ => exact .nil
    | cons _ _ => exact .nil
end
end Wa
set_option maxHeartbeats 4000000
/-! The end: every def off the head's facts, the law last. -/
namespace Wa
open PySem PySem.Spec PyProof.Rows L2
theorem ends {P : Program} {w : World} {K : PySem.W.Frag} {h : Heap} {mg : Str → Option Value} {f : Addr} (X : K.In h) (G : h.Ns mainGlobals mg) (hfa : mg ("law" : Str) = some (.ref f)) (c : He.SaysD faL fnL K) :
    ∃ fd : FuncData, (∀ (s : Shared) (v : Value), BindsTo s fd ⟨[v], []⟩ [("_law_script", v)]) ∧ ∀ base : Heap, K.In base → base.Ns mainGlobals mg → FnG P w K mg base 9 f fd ["_law_script"] (sp_law K) := by
  obtain ⟨tt, ht⟩ := He.int_ok X G (x := "TOP") (i := 10000) (c.fact 83 rfl)
  have B : Blt mg (.int 10000 tt) := ⟨He.free_ok X G (c.fact 68 rfl), He.free_ok X G (c.fact 69 rfl), He.free_ok X G (c.fact 70 rfl), He.free_ok X G (c.fact 71 rfl), He.free_ok X G (c.fact 72 rfl), He.free_ok X G (c.fact 73 rfl), He.free_ok X G (c.fact 74 rfl), He.free_ok X G (c.fact 75 rfl), He.free_ok X G (c.fact 76 rfl), He.free_ok X G (c.fact 77 rfl), He.free_ok X G (c.fact 78 rfl), He.free_ok X G (c.fact 79 rfl), He.free_ok X G (c.fact 80 rfl), He.free_ok X G (c.fact 81 rfl), He.free_ok X G (c.fact 82 rfl), ht, ⟨tt, rfl⟩⟩
  obtain ⟨fd__law_feed, W__law_feed⟩ := c.def_ 0 (d := topD "_law_feed" 68 []) rfl
  have m__law_feed : mg ("_law_feed" : Str) = some (.ref (He.ga K "_law_feed")) := He.glo_ok X G (c.fact 0 rfl)
  have F__law_feed : Fun K "_law_feed" "_law_feed" s__law_feed (He.ga K "_law_feed") fd__law_feed := fun_ofD W__law_feed
  have b__law_feed : Binds K fd__law_feed ["_law_script"] [] := F__law_feed.binds fun _ _ _ _ _ _ us hl => match us, hl with | [_], _ => rfl
  obtain ⟨fd__law_worlds, W__law_worlds⟩ := c.def_ 1 (d := topD "_law_worlds" 73 []) rfl
  have m__law_worlds : mg ("_law_worlds" : Str) = some (.ref (He.ga K "_law_worlds")) := He.glo_ok X G (c.fact 1 rfl)
  have F__law_worlds : Fun K "_law_worlds" "_law_worlds" s__law_worlds (He.ga K "_law_worlds") fd__law_worlds := fun_ofD W__law_worlds
  have b__law_worlds : Binds K fd__law_worlds [] [] := F__law_worlds.binds fun _ _ _ _ _ _ us hl => match us, hl with | [], _ => rfl
  obtain ⟨fd__law_draw, W__law_draw⟩ := c.def_ 2 (d := topD "_law_draw" 69 []) rfl
  have m__law_draw : mg ("_law_draw" : Str) = some (.ref (He.ga K "_law_draw")) := He.glo_ok X G (c.fact 2 rfl)
  have F__law_draw : Fun K "_law_draw" "_law_draw" s__law_draw (He.ga K "_law_draw") fd__law_draw := fun_ofD W__law_draw
  have b__law_draw : Binds K fd__law_draw ["_law_src", "_law_much"] [] := F__law_draw.binds fun _ _ _ _ _ _ us hl => match us, hl with | [_, _], _ => rfl
  obtain ⟨fd__law_any, W__law_any⟩ := c.def_ 3 (d := topD "_law_any" 70 []) rfl
  have m__law_any : mg ("_law_any" : Str) = some (.ref (He.ga K "_law_any")) := He.glo_ok X G (c.fact 3 rfl)
  have F__law_any : Fun K "_law_any" "_law_any" s__law_any (He.ga K "_law_any") fd__law_any := fun_ofD W__law_any
  have b__law_any : Binds K fd__law_any ["_law_src", "_law_some"] [] := F__law_any.binds fun _ _ _ _ _ _ us hl => match us, hl with | [_, _], _ => rfl
  obtain ⟨fd__law_up, W__law_up⟩ := c.def_ 4 (d := topD "_law_up" 72 []) rfl
  have m__law_up : mg ("_law_up" : Str) = some (.ref (He.ga K "_law_up")) := He.glo_ok X G (c.fact 4 rfl)
  have F__law_up : Fun K "_law_up" "_law_up" s__law_up (He.ga K "_law_up") fd__law_up := fun_ofD W__law_up
  have b__law_up : Binds K fd__law_up ["_law_root", "_law_many_here", "_law_prime"] [] := F__law_up.binds fun _ _ _ _ _ _ us hl => match us, hl with | [_, _, _], _ => rfl
  obtain ⟨fd__law_roots, W__law_roots⟩ := c.def_ 5 (d := topD "_law_roots" 74 []) rfl
  have m__law_roots : mg ("_law_roots" : Str) = some (.ref (He.ga K "_law_roots")) := He.glo_ok X G (c.fact 5 rfl)
  have F__law_roots : Fun K "_law_roots" "_law_roots" s__law_roots (He.ga K "_law_roots") fd__law_roots := fun_ofD W__law_roots
  have b__law_roots : Binds K fd__law_roots ["_law_p", "_law_q"] [] := F__law_roots.binds fun _ _ _ _ _ _ us hl => match us, hl with | [_, _], _ => rfl
  obtain ⟨fd__law_chart, W__law_chart⟩ := c.def_ 6 (d := topD "_law_chart" 75 []) rfl
  have m__law_chart : mg ("_law_chart" : Str) = some (.ref (He.ga K "_law_chart")) := He.glo_ok X G (c.fact 6 rfl)
  have F__law_chart : Fun K "_law_chart" "_law_chart" s__law_chart (He.ga K "_law_chart") fd__law_chart := fun_ofD W__law_chart
  have b__law_chart : Binds K fd__law_chart ["_law_src", "_law_world"] [] := F__law_chart.binds fun _ _ _ _ _ _ us hl => match us, hl with | [_, _], _ => rfl
  obtain ⟨fd__law_near, W__law_near⟩ := c.def_ 7 (d := topD "_law_near" 83 []) rfl
  have m__law_near : mg ("_law_near" : Str) = some (.ref (He.ga K "_law_near")) := He.glo_ok X G (c.fact 7 rfl)
  have F__law_near : Fun K "_law_near" "_law_near" s__law_near (He.ga K "_law_near") fd__law_near := fun_ofD W__law_near
  have b__law_near : Binds K fd__law_near ["_law_src", "_law_chart_here"] [] := F__law_near.binds fun _ _ _ _ _ _ us hl => match us, hl with | [_, _], _ => rfl
  obtain ⟨fd__law_cut, W__law_cut⟩ := c.def_ 8 (d := topD "_law_cut" 82 []) rfl
  have m__law_cut : mg ("_law_cut" : Str) = some (.ref (He.ga K "_law_cut")) := He.glo_ok X G (c.fact 8 rfl)
  have F__law_cut : Fun K "_law_cut" "_law_cut" s__law_cut (He.ga K "_law_cut") fd__law_cut := fun_ofD W__law_cut
  have b__law_cut : Binds K fd__law_cut ["_law_chart_here", "_law_some"] [] := F__law_cut.binds fun _ _ _ _ _ _ us hl => match us, hl with | [_, _], _ => rfl
  obtain ⟨fd__law_threes, W__law_threes⟩ := c.def_ 9 (d := topD "_law_threes" 85 []) rfl
  have m__law_threes : mg ("_law_threes" : Str) = some (.ref (He.ga K "_law_threes")) := He.glo_ok X G (c.fact 9 rfl)
  have F__law_threes : Fun K "_law_threes" "_law_threes" s__law_threes (He.ga K "_law_threes") fd__law_threes := fun_ofD W__law_threes
  have b__law_threes : Binds K fd__law_threes ["_law_chart_here", "_law_rival"] [] := F__law_threes.binds fun _ _ _ _ _ _ us hl => match us, hl with | [_, _], _ => rfl
  obtain ⟨fd_want, W_want⟩ := c.def_ 10 (d := topD "want" 42 [.int (-1)]) rfl
  have m_want : mg ("want" : Str) = some (.ref (He.ga K "want")) := He.glo_ok X G (c.fact 10 rfl)
  have F_want : FunW K "want" s_want [(V.int (-1))] (He.ga K "want") fd_want := W_want
  obtain ⟨fd_is_pair, W_is_pair⟩ := c.def_ 11 (d := topD "is_pair" 33 []) rfl
  have m_is_pair : mg ("is_pair" : Str) = some (.ref (He.ga K "is_pair")) := He.glo_ok X G (c.fact 11 rfl)
  have F_is_pair : Fun K "is_pair" "is_pair" s_is_pair (He.ga K "is_pair") fd_is_pair := fun_ofD W_is_pair
  have b_is_pair : Binds K fd_is_pair ["value"] [] := F_is_pair.binds fun _ _ _ _ _ _ us hl => match us, hl with | [_], _ => rfl
  obtain ⟨fd_is_whole_number, W_is_whole_number⟩ := c.def_ 12 (d := topD "is_whole_number" 30 []) rfl
  have m_is_whole_number : mg ("is_whole_number" : Str) = some (.ref (He.ga K "is_whole_number")) := He.glo_ok X G (c.fact 12 rfl)
  have F_is_whole_number : Fun K "is_whole_number" "is_whole_number" s_is_whole_number (He.ga K "is_whole_number") fd_is_whole_number := fun_ofD W_is_whole_number
  have b_is_whole_number : Binds K fd_is_whole_number ["value"] [] := F_is_whole_number.binds fun _ _ _ _ _ _ us hl => match us, hl with | [_], _ => rfl
  obtain ⟨fd_is_undivided, W_is_undivided⟩ := c.def_ 13 (d := topD "is_undivided" 1 []) rfl
  have m_is_undivided : mg ("is_undivided" : Str) = some (.ref (He.ga K "is_undivided")) := He.glo_ok X G (c.fact 13 rfl)
  have F_is_undivided : Fun K "is_undivided" "is_undivided" s_is_undivided (He.ga K "is_undivided") fd_is_undivided := fun_ofD W_is_undivided
  have b_is_undivided : Binds K fd_is_undivided ["number"] [] := F_is_undivided.binds fun _ _ _ _ _ _ us hl => match us, hl with | [_], _ => rfl
  obtain ⟨fd_is_small_prime, W_is_small_prime⟩ := c.def_ 14 (d := topD "is_small_prime" 32 []) rfl
  have m_is_small_prime : mg ("is_small_prime" : Str) = some (.ref (He.ga K "is_small_prime")) := He.glo_ok X G (c.fact 14 rfl)
  have F_is_small_prime : Fun K "is_small_prime" "is_small_prime" s_is_small_prime (He.ga K "is_small_prime") fd_is_small_prime := fun_ofD W_is_small_prime
  have b_is_small_prime : Binds K fd_is_small_prime ["value"] [] := F_is_small_prime.binds fun _ _ _ _ _ _ us hl => match us, hl with | [_], _ => rfl
  obtain ⟨fd_prime_fault, W_prime_fault⟩ := c.def_ 15 (d := topD "prime_fault" 37 []) rfl
  have m_prime_fault : mg ("prime_fault" : Str) = some (.ref (He.ga K "prime_fault")) := He.glo_ok X G (c.fact 15 rfl)
  have F_prime_fault : Fun K "prime_fault" "prime_fault" s_prime_fault (He.ga K "prime_fault") fd_prime_fault := fun_ofD W_prime_fault
  have b_prime_fault : Binds K fd_prime_fault ["primes"] [] := F_prime_fault.binds fun _ _ _ _ _ _ us hl => match us, hl with | [_], _ => rfl
  obtain ⟨fd_power_in, W_power_in⟩ := c.def_ 16 (d := topD "power_in" 2 []) rfl
  have m_power_in : mg ("power_in" : Str) = some (.ref (He.ga K "power_in")) := He.glo_ok X G (c.fact 16 rfl)
  have F_power_in : Fun K "power_in" "power_in" s_power_in (He.ga K "power_in") fd_power_in := fun_ofD W_power_in
  have b_power_in : Binds K fd_power_in ["base", "k", "prime"] [] := F_power_in.binds fun _ _ _ _ _ _ us hl => match us, hl with | [_, _, _], _ => rfl
  obtain ⟨fd_move_fault, W_move_fault⟩ := c.def_ 17 (d := topD "move_fault" 38 []) rfl
  have m_move_fault : mg ("move_fault" : Str) = some (.ref (He.ga K "move_fault")) := He.glo_ok X G (c.fact 17 rfl)
  have F_move_fault : Fun K "move_fault" "move_fault" s_move_fault (He.ga K "move_fault") fd_move_fault := fun_ofD W_move_fault
  have b_move_fault : Binds K fd_move_fault ["primes", "mover", "row", "j"] [] := F_move_fault.binds fun _ _ _ _ _ _ us hl => match us, hl with | [_, _, _, _], _ => rfl
  obtain ⟨fd_row_fault, W_row_fault⟩ := c.def_ 18 (d := topD "row_fault" 39 []) rfl
  have m_row_fault : mg ("row_fault" : Str) = some (.ref (He.ga K "row_fault")) := He.glo_ok X G (c.fact 18 rfl)
  have F_row_fault : Fun K "row_fault" "row_fault" s_row_fault (He.ga K "row_fault") fd_row_fault := fun_ofD W_row_fault
  have b_row_fault : Binds K fd_row_fault ["primes", "moves", "k"] [] := F_row_fault.binds fun _ _ _ _ _ _ us hl => match us, hl with | [_, _, _], _ => rfl
  obtain ⟨fd_table_fault, W_table_fault⟩ := c.def_ 19 (d := topD "table_fault" 40 []) rfl
  have m_table_fault : mg ("table_fault" : Str) = some (.ref (He.ga K "table_fault")) := He.glo_ok X G (c.fact 19 rfl)
  have F_table_fault : Fun K "table_fault" "table_fault" s_table_fault (He.ga K "table_fault") fd_table_fault := fun_ofD W_table_fault
  have b_table_fault : Binds K fd_table_fault ["value"] [] := F_table_fault.binds fun _ _ _ _ _ _ us hl => match us, hl with | [_], _ => rfl
  obtain ⟨fd_want_table, W_want_table⟩ := c.def_ 20 (d := topD "want_table" 43 [.str "table"]) rfl
  have m_want_table : mg ("want_table" : Str) = some (.ref (He.ga K "want_table")) := He.glo_ok X G (c.fact 20 rfl)
  have F_want_table : FunW K "want_table" s_want_table [(V.str "table")] (He.ga K "want_table") fd_want_table := W_want_table
  obtain ⟨fd_want_both, W_want_both⟩ := c.def_ 21 (d := topD "want_both" 46 []) rfl
  have m_want_both : mg ("want_both" : Str) = some (.ref (He.ga K "want_both")) := He.glo_ok X G (c.fact 21 rfl)
  have F_want_both : Fun K "want_both" "want_both" s_want_both (He.ga K "want_both") fd_want_both := fun_ofD W_want_both
  have b_want_both : Binds K fd_want_both ["table", "other"] [] := F_want_both.binds fun _ _ _ _ _ _ us hl => match us, hl with | [_, _], _ => rfl
  obtain ⟨fd_web_in, W_web_in⟩ := c.def_ 22 (d := topD "web_in" 6 []) rfl
  have m_web_in : mg ("web_in" : Str) = some (.ref (He.ga K "web_in")) := He.glo_ok X G (c.fact 22 rfl)
  have F_web_in : Fun K "web_in" "web_in" s_web_in (He.ga K "web_in") fd_web_in := fun_ofD W_web_in
  have b_web_in : Binds K fd_web_in ["table"] [] := F_web_in.binds fun _ _ _ _ _ _ us hl => match us, hl with | [_], _ => rfl
  obtain ⟨fd_movers_in, W_movers_in⟩ := c.def_ 23 (d := topD "movers_in" 7 []) rfl
  have m_movers_in : mg ("movers_in" : Str) = some (.ref (He.ga K "movers_in")) := He.glo_ok X G (c.fact 23 rfl)
  have F_movers_in : Fun K "movers_in" "movers_in" s_movers_in (He.ga K "movers_in") fd_movers_in := fun_ofD W_movers_in
  have b_movers_in : Binds K fd_movers_in ["table"] [] := F_movers_in.binds fun _ _ _ _ _ _ us hl => match us, hl with | [_], _ => rfl
  obtain ⟨fd_rows_in, W_rows_in⟩ := c.def_ 24 (d := topD "rows_in" 5 []) rfl
  have m_rows_in : mg ("rows_in" : Str) = some (.ref (He.ga K "rows_in")) := He.glo_ok X G (c.fact 24 rfl)
  have F_rows_in : Fun K "rows_in" "rows_in" s_rows_in (He.ga K "rows_in") fd_rows_in := fun_ofD W_rows_in
  have b_rows_in : Binds K fd_rows_in ["table"] [] := F_rows_in.binds fun _ _ _ _ _ _ us hl => match us, hl with | [_], _ => rfl
  obtain ⟨fd_moved_by, W_moved_by⟩ := c.def_ 25 (d := topD "moved_by" 10 []) rfl
  have m_moved_by : mg ("moved_by" : Str) = some (.ref (He.ga K "moved_by")) := He.glo_ok X G (c.fact 25 rfl)
  have F_moved_by : Fun K "moved_by" "moved_by" s_moved_by (He.ga K "moved_by") fd_moved_by := fun_ofD W_moved_by
  have b_moved_by : Binds K fd_moved_by ["table", "mover"] [] := F_moved_by.binds fun _ _ _ _ _ _ us hl => match us, hl with | [_, _], _ => rfl
  obtain ⟨fd_log_in, W_log_in⟩ := c.def_ 26 (d := topD "log_in" 18 []) rfl
  have m_log_in : mg ("log_in" : Str) = some (.ref (He.ga K "log_in")) := He.glo_ok X G (c.fact 26 rfl)
  have F_log_in : Fun K "log_in" "log_in" s_log_in (He.ga K "log_in") fd_log_in := fun_ofD W_log_in
  have b_log_in : Binds K fd_log_in ["base", "goal", "prime", "most"] [] := F_log_in.binds fun _ _ _ _ _ _ us hl => match us, hl with | [_, _, _, _], _ => rfl
  obtain ⟨fd_row_power, W_row_power⟩ := c.def_ 27 (d := topD "row_power" 21 []) rfl
  have m_row_power : mg ("row_power" : Str) = some (.ref (He.ga K "row_power")) := He.glo_ok X G (c.fact 27 rfl)
  have F_row_power : Fun K "row_power" "row_power" s_row_power (He.ga K "row_power") fd_row_power := fun_ofD W_row_power
  have b_row_power : Binds K fd_row_power ["row", "k"] [] := F_row_power.binds fun _ _ _ _ _ _ us hl => match us, hl with | [_, _], _ => rfl
  obtain ⟨fd_power_in_rows, W_power_in_rows⟩ := c.def_ 28 (d := topD "power_in_rows" 22 []) rfl
  have m_power_in_rows : mg ("power_in_rows" : Str) = some (.ref (He.ga K "power_in_rows")) := He.glo_ok X G (c.fact 28 rfl)
  have F_power_in_rows : Fun K "power_in_rows" "power_in_rows" s_power_in_rows (He.ga K "power_in_rows") fd_power_in_rows := fun_ofD W_power_in_rows
  have b_power_in_rows : Binds K fd_power_in_rows ["table", "other", "mover"] [] := F_power_in_rows.binds fun _ _ _ _ _ _ us hl => match us, hl with | [_, _, _], _ => rfl
  obtain ⟨fd_alike_in, W_alike_in⟩ := c.def_ 29 (d := topD "alike_in" 23 []) rfl
  have m_alike_in : mg ("alike_in" : Str) = some (.ref (He.ga K "alike_in")) := He.glo_ok X G (c.fact 29 rfl)
  have F_alike_in : Fun K "alike_in" "alike_in" s_alike_in (He.ga K "alike_in") fd_alike_in := fun_ofD W_alike_in
  have b_alike_in : Binds K fd_alike_in ["table", "other"] [] := F_alike_in.binds fun _ _ _ _ _ _ us hl => match us, hl with | [_, _], _ => rfl
  obtain ⟨fd_cut_in, W_cut_in⟩ := c.def_ 30 (d := topD "cut_in" 12 []) rfl
  have m_cut_in : mg ("cut_in" : Str) = some (.ref (He.ga K "cut_in")) := He.glo_ok X G (c.fact 30 rfl)
  have F_cut_in : Fun K "cut_in" "cut_in" s_cut_in (He.ga K "cut_in") fd_cut_in := fun_ofD W_cut_in
  have b_cut_in : Binds K fd_cut_in ["table", "primes"] [] := F_cut_in.binds fun _ _ _ _ _ _ us hl => match us, hl with | [_, _], _ => rfl
  obtain ⟨fd_is_like_part, W_is_like_part⟩ := c.def_ 31 (d := topD "is_like_part" 56 []) rfl
  have m_is_like_part : mg ("is_like_part" : Str) = some (.ref (He.ga K "is_like_part")) := He.glo_ok X G (c.fact 31 rfl)
  have F_is_like_part : Fun K "is_like_part" "is_like_part" s_is_like_part (He.ga K "is_like_part") fd_is_like_part := fun_ofD W_is_like_part
  have b_is_like_part : Binds K fd_is_like_part ["table", "other"] [] := F_is_like_part.binds fun _ _ _ _ _ _ us hl => match us, hl with | [_, _], _ => rfl
  obtain ⟨fd_size_in, W_size_in⟩ := c.def_ 32 (d := topD "size_in" 3 []) rfl
  have m_size_in : mg ("size_in" : Str) = some (.ref (He.ga K "size_in")) := He.glo_ok X G (c.fact 32 rfl)
  have F_size_in : Fun K "size_in" "size_in" s_size_in (He.ga K "size_in") fd_size_in := fun_ofD W_size_in
  have b_size_in : Binds K fd_size_in ["primes"] [] := F_size_in.binds fun _ _ _ _ _ _ us hl => match us, hl with | [_], _ => rfl
  obtain ⟨fd_moved_out, W_moved_out⟩ := c.def_ 33 (d := topD "moved_out" 50 []) rfl
  have m_moved_out : mg ("moved_out" : Str) = some (.ref (He.ga K "moved_out")) := He.glo_ok X G (c.fact 33 rfl)
  have F_moved_out : Fun K "moved_out" "moved_out" s_moved_out (He.ga K "moved_out") fd_moved_out := fun_ofD W_moved_out
  have b_moved_out : Binds K fd_moved_out ["table", "primes"] [] := F_moved_out.binds fun _ _ _ _ _ _ us hl => match us, hl with | [_, _], _ => rfl
  obtain ⟨fd_parts_in, W_parts_in⟩ := c.def_ 34 (d := topD "parts_in" 52 []) rfl
  have m_parts_in : mg ("parts_in" : Str) = some (.ref (He.ga K "parts_in")) := He.glo_ok X G (c.fact 34 rfl)
  have F_parts_in : Fun K "parts_in" "parts_in" s_parts_in (He.ga K "parts_in") fd_parts_in := fun_ofD W_parts_in
  have b_parts_in : Binds K fd_parts_in ["table", "primes"] [] := F_parts_in.binds fun _ _ _ _ _ _ us hl => match us, hl with | [_, _], _ => rfl
  obtain ⟨fd_alike_parts_in, W_alike_parts_in⟩ := c.def_ 35 (d := topD "alike_parts_in" 57 []) rfl
  have m_alike_parts_in : mg ("alike_parts_in" : Str) = some (.ref (He.ga K "alike_parts_in")) := He.glo_ok X G (c.fact 35 rfl)
  have F_alike_parts_in : Fun K "alike_parts_in" "alike_parts_in" s_alike_parts_in (He.ga K "alike_parts_in") fd_alike_parts_in := fun_ofD W_alike_parts_in
  have b_alike_parts_in : Binds K fd_alike_parts_in ["table", "other"] [] := F_alike_parts_in.binds fun _ _ _ _ _ _ us hl => match us, hl with | [_, _], _ => rfl
  obtain ⟨fd_parts_alike, W_parts_alike⟩ := c.def_ 36 (d := topD "parts_alike" 58 []) rfl
  have m_parts_alike : mg ("parts_alike" : Str) = some (.ref (He.ga K "parts_alike")) := He.glo_ok X G (c.fact 36 rfl)
  have F_parts_alike : Fun K "parts_alike" "parts_alike" s_parts_alike (He.ga K "parts_alike") fd_parts_alike := fun_ofD W_parts_alike
  have b_parts_alike : Binds K fd_parts_alike ["table", "other"] [] := F_parts_alike.binds fun _ _ _ _ _ _ us hl => match us, hl with | [_, _], _ => rfl
  obtain ⟨fd__law_web, W__law_web⟩ := c.def_ 37 (d := topD "_law_web" 80 []) rfl
  have m__law_web : mg ("_law_web" : Str) = some (.ref (He.ga K "_law_web")) := He.glo_ok X G (c.fact 37 rfl)
  have F__law_web : Fun K "_law_web" "_law_web" s__law_web (He.ga K "_law_web") fd__law_web := fun_ofD W__law_web
  have b__law_web : Binds K fd__law_web ["_law_chart_here"] [] := F__law_web.binds fun _ _ _ _ _ _ us hl => match us, hl with | [_], _ => rfl
  obtain ⟨fd__law_movers, W__law_movers⟩ := c.def_ 38 (d := topD "_law_movers" 77 []) rfl
  have m__law_movers : mg ("_law_movers" : Str) = some (.ref (He.ga K "_law_movers")) := He.glo_ok X G (c.fact 38 rfl)
  have F__law_movers : Fun K "_law_movers" "_law_movers" s__law_movers (He.ga K "_law_movers") fd__law_movers := fun_ofD W__law_movers
  have b__law_movers : Binds K fd__law_movers ["_law_chart_here"] [] := F__law_movers.binds fun _ _ _ _ _ _ us hl => match us, hl with | [_], _ => rfl
  obtain ⟨fd__law_row, W__law_row⟩ := c.def_ 39 (d := topD "_law_row" 78 []) rfl
  have m__law_row : mg ("_law_row" : Str) = some (.ref (He.ga K "_law_row")) := He.glo_ok X G (c.fact 39 rfl)
  have F__law_row : Fun K "_law_row" "_law_row" s__law_row (He.ga K "_law_row") fd__law_row := fun_ofD W__law_row
  have b__law_row : Binds K fd__law_row ["_law_chart_here", "_law_p"] [] := F__law_row.binds fun _ _ _ _ _ _ us hl => match us, hl with | [_, _], _ => rfl
  obtain ⟨fd__law_power_between, W__law_power_between⟩ := c.def_ 40 (d := topD "_law_power_between" 79 []) rfl
  have m__law_power_between : mg ("_law_power_between" : Str) = some (.ref (He.ga K "_law_power_between")) := He.glo_ok X G (c.fact 40 rfl)
  have F__law_power_between : Fun K "_law_power_between" "_law_power_between" s__law_power_between (He.ga K "_law_power_between") fd__law_power_between := fun_ofD W__law_power_between
  have b__law_power_between : Binds K fd__law_power_between ["_law_one", "_law_two", "_law_p"] [] := F__law_power_between.binds fun _ _ _ _ _ _ us hl => match us, hl with | [_, _, _], _ => rfl
  obtain ⟨fd__law_are_alike, W__law_are_alike⟩ := c.def_ 41 (d := topD "_law_are_alike" 81 []) rfl
  have m__law_are_alike : mg ("_law_are_alike" : Str) = some (.ref (He.ga K "_law_are_alike")) := He.glo_ok X G (c.fact 41 rfl)
  have F__law_are_alike : Fun K "_law_are_alike" "_law_are_alike" s__law_are_alike (He.ga K "_law_are_alike") fd__law_are_alike := fun_ofD W__law_are_alike
  have b__law_are_alike : Binds K fd__law_are_alike ["_law_one", "_law_two"] [] := F__law_are_alike.binds fun _ _ _ _ _ _ us hl => match us, hl with | [_, _], _ => rfl
  obtain ⟨fd__law_many, W__law_many⟩ := c.def_ 42 (d := topD "_law_many" 86 []) rfl
  have m__law_many : mg ("_law_many" : Str) = some (.ref (He.ga K "_law_many")) := He.glo_ok X G (c.fact 42 rfl)
  have F__law_many : Fun K "_law_many" "_law_many" s__law_many (He.ga K "_law_many") fd__law_many := fun_ofD W__law_many
  have b__law_many : Binds K fd__law_many ["_law_chart_here", "_law_goal"] [] := F__law_many.binds fun _ _ _ _ _ _ us hl => match us, hl with | [_, _], _ => rfl
  obtain ⟨fd__law_same, W__law_same⟩ := c.def_ 43 (d := topD "_law_same" 71 []) rfl
  have m__law_same : mg ("_law_same" : Str) = some (.ref (He.ga K "_law_same")) := He.glo_ok X G (c.fact 43 rfl)
  have F__law_same : Fun K "_law_same" "_law_same" s__law_same (He.ga K "_law_same") fd__law_same := fun_ofD W__law_same
  have b__law_same : Binds K fd__law_same ["_law_told", "_law_due"] [] := F__law_same.binds fun _ _ _ _ _ _ us hl => match us, hl with | [_, _], _ => rfl
  obtain ⟨fd_are_alike, W_are_alike⟩ := c.def_ 44 (d := topD "are_alike" 48 []) rfl
  have m_are_alike : mg ("are_alike" : Str) = some (.ref (He.ga K "are_alike")) := He.glo_ok X G (c.fact 44 rfl)
  have F_are_alike : Fun K "are_alike" "are_alike" s_are_alike (He.ga K "are_alike") fd_are_alike := fun_ofD W_are_alike
  have b_are_alike : Binds K fd_are_alike ["table", "other"] [] := F_are_alike.binds fun _ _ _ _ _ _ us hl => match us, hl with | [_, _], _ => rfl
  obtain ⟨fd__law_are_told, W__law_are_told⟩ := c.def_ 45 (d := topD "_law_are_told" 87 []) rfl
  have m__law_are_told : mg ("_law_are_told" : Str) = some (.ref (He.ga K "_law_are_told")) := He.glo_ok X G (c.fact 45 rfl)
  have F__law_are_told : Fun K "_law_are_told" "_law_are_told" s__law_are_told (He.ga K "_law_are_told") fd__law_are_told := fun_ofD W__law_are_told
  have b__law_are_told : Binds K fd__law_are_told ["_law_chart_here", "_law_rival"] [] := F__law_are_told.binds fun _ _ _ _ _ _ us hl => match us, hl with | [_, _], _ => rfl
  obtain ⟨fd_are_rising, W_are_rising⟩ := c.def_ 46 (d := topD "are_rising" 34 []) rfl
  have m_are_rising : mg ("are_rising" : Str) = some (.ref (He.ga K "are_rising")) := He.glo_ok X G (c.fact 46 rfl)
  have F_are_rising : Fun K "are_rising" "are_rising" s_are_rising (He.ga K "are_rising") fd_are_rising := fun_ofD W_are_rising
  have b_are_rising : Binds K fd_are_rising ["numbers"] [] := F_are_rising.binds fun _ _ _ _ _ _ us hl => match us, hl with | [_], _ => rfl
  obtain ⟨fd_are_primes_among, W_are_primes_among⟩ := c.def_ 47 (d := topD "are_primes_among" 35 []) rfl
  have m_are_primes_among : mg ("are_primes_among" : Str) = some (.ref (He.ga K "are_primes_among")) := He.glo_ok X G (c.fact 47 rfl)
  have F_are_primes_among : Fun K "are_primes_among" "are_primes_among" s_are_primes_among (He.ga K "are_primes_among") fd_are_primes_among := fun_ofD W_are_primes_among
  have b_are_primes_among : Binds K fd_are_primes_among ["primes", "value"] [] := F_are_primes_among.binds fun _ _ _ _ _ _ us hl => match us, hl with | [_, _], _ => rfl
  obtain ⟨fd_want_primes, W_want_primes⟩ := c.def_ 48 (d := topD "want_primes" 44 [.str "primes"]) rfl
  have m_want_primes : mg ("want_primes" : Str) = some (.ref (He.ga K "want_primes")) := He.glo_ok X G (c.fact 48 rfl)
  have F_want_primes : FunW K "want_primes" s_want_primes [(V.str "primes")] (He.ga K "want_primes") fd_want_primes := W_want_primes
  obtain ⟨fd_cut_to, W_cut_to⟩ := c.def_ 49 (d := topD "cut_to" 60 []) rfl
  have m_cut_to : mg ("cut_to" : Str) = some (.ref (He.ga K "cut_to")) := He.glo_ok X G (c.fact 49 rfl)
  have F_cut_to : Fun K "cut_to" "cut_to" s_cut_to (He.ga K "cut_to") fd_cut_to := fun_ofD W_cut_to
  have b_cut_to : Binds K fd_cut_to ["table", "primes"] [] := F_cut_to.binds fun _ _ _ _ _ _ us hl => match us, hl with | [_, _], _ => rfl
  obtain ⟨fd__law_pairs_tell, W__law_pairs_tell⟩ := c.def_ 50 (d := topD "_law_pairs_tell" 88 []) rfl
  have m__law_pairs_tell : mg ("_law_pairs_tell" : Str) = some (.ref (He.ga K "_law_pairs_tell")) := He.glo_ok X G (c.fact 50 rfl)
  have F__law_pairs_tell : Fun K "_law_pairs_tell" "_law_pairs_tell" s__law_pairs_tell (He.ga K "_law_pairs_tell") fd__law_pairs_tell := fun_ofD W__law_pairs_tell
  have b__law_pairs_tell : Binds K fd__law_pairs_tell ["_law_chart_here", "_law_rival"] [] := F__law_pairs_tell.binds fun _ _ _ _ _ _ us hl => match us, hl with | [_, _], _ => rfl
  obtain ⟨fd_part_count, W_part_count⟩ := c.def_ 51 (d := topD "part_count" 54 []) rfl
  have m_part_count : mg ("part_count" : Str) = some (.ref (He.ga K "part_count")) := He.glo_ok X G (c.fact 51 rfl)
  have F_part_count : Fun K "part_count" "part_count" s_part_count (He.ga K "part_count") fd_part_count := fun_ofD W_part_count
  have b_part_count : Binds K fd_part_count ["table", "primes"] [] := F_part_count.binds fun _ _ _ _ _ _ us hl => match us, hl with | [_, _], _ => rfl
  obtain ⟨fd__law_factors, W__law_factors⟩ := c.def_ 52 (d := topD "_law_factors" 76 []) rfl
  have m__law_factors : mg ("_law_factors" : Str) = some (.ref (He.ga K "_law_factors")) := He.glo_ok X G (c.fact 52 rfl)
  have F__law_factors : Fun K "_law_factors" "_law_factors" s__law_factors (He.ga K "_law_factors") fd__law_factors := fun_ofD W__law_factors
  have b__law_factors : Binds K fd__law_factors ["_law_chart_here", "_law_item"] [] := F__law_factors.binds fun _ _ _ _ _ _ us hl => match us, hl with | [_, _], _ => rfl
  obtain ⟨fd__law_twist, W__law_twist⟩ := c.def_ 53 (d := topD "_law_twist" 84 []) rfl
  have m__law_twist : mg ("_law_twist" : Str) = some (.ref (He.ga K "_law_twist")) := He.glo_ok X G (c.fact 53 rfl)
  have F__law_twist : Fun K "_law_twist" "_law_twist" s__law_twist (He.ga K "_law_twist") fd__law_twist := fun_ofD W__law_twist
  have b__law_twist : Binds K fd__law_twist ["_law_chart_here", "_law_r"] [] := F__law_twist.binds fun _ _ _ _ _ _ us hl => match us, hl with | [_, _], _ => rfl
  obtain ⟨fd_is_count, W_is_count⟩ := c.def_ 54 (d := topD "is_count" 31 []) rfl
  have m_is_count : mg ("is_count" : Str) = some (.ref (He.ga K "is_count")) := He.glo_ok X G (c.fact 54 rfl)
  have F_is_count : Fun K "is_count" "is_count" s_is_count (He.ga K "is_count") fd_is_count := fun_ofD W_is_count
  have b_is_count : Binds K fd_is_count ["value"] [] := F_is_count.binds fun _ _ _ _ _ _ us hl => match us, hl with | [_], _ => rfl
  obtain ⟨fd_subsets_of, W_subsets_of⟩ := c.def_ 55 (d := topD "subsets_of" 14 []) rfl
  have m_subsets_of : mg ("subsets_of" : Str) = some (.ref (He.ga K "subsets_of")) := He.glo_ok X G (c.fact 55 rfl)
  have F_subsets_of : Fun K "subsets_of" "subsets_of" s_subsets_of (He.ga K "subsets_of") fd_subsets_of := fun_ofD W_subsets_of
  have b_subsets_of : Binds K fd_subsets_of ["primes"] [] := F_subsets_of.binds fun _ _ _ _ _ _ us hl => match us, hl with | [_], _ => rfl
  obtain ⟨fd_moved_in, W_moved_in⟩ := c.def_ 56 (d := topD "moved_in" 8 []) rfl
  have m_moved_in : mg ("moved_in" : Str) = some (.ref (He.ga K "moved_in")) := He.glo_ok X G (c.fact 56 rfl)
  have F_moved_in : Fun K "moved_in" "moved_in" s_moved_in (He.ga K "moved_in") fd_moved_in := fun_ofD W_moved_in
  have b_moved_in : Binds K fd_moved_in ["table"] [] := F_moved_in.binds fun _ _ _ _ _ _ us hl => match us, hl with | [_], _ => rfl
  obtain ⟨fd_other_moved, W_other_moved⟩ := c.def_ 57 (d := topD "other_moved" 62 []) rfl
  have m_other_moved : mg ("other_moved" : Str) = some (.ref (He.ga K "other_moved")) := He.glo_ok X G (c.fact 57 rfl)
  have F_other_moved : Fun K "other_moved" "other_moved" s_other_moved (He.ga K "other_moved") fd_other_moved := fun_ofD W_other_moved
  have b_other_moved : Binds K fd_other_moved ["table", "gone"] [] := F_other_moved.binds fun _ _ _ _ _ _ us hl => match us, hl with | [_, _], _ => rfl
  obtain ⟨fd_movers_on, W_movers_on⟩ := c.def_ 58 (d := topD "movers_on" 11 []) rfl
  have m_movers_on : mg ("movers_on" : Str) = some (.ref (He.ga K "movers_on")) := He.glo_ok X G (c.fact 58 rfl)
  have F_movers_on : Fun K "movers_on" "movers_on" s_movers_on (He.ga K "movers_on") fd_movers_on := fun_ofD W_movers_on
  have b_movers_on : Binds K fd_movers_on ["table", "prime"] [] := F_movers_on.binds fun _ _ _ _ _ _ us hl => match us, hl with | [_, _], _ => rfl
  obtain ⟨fd_struck_by, W_struck_by⟩ := c.def_ 59 (d := topD "struck_by" 17 []) rfl
  have m_struck_by : mg ("struck_by" : Str) = some (.ref (He.ga K "struck_by")) := He.glo_ok X G (c.fact 59 rfl)
  have F_struck_by : Fun K "struck_by" "struck_by" s_struck_by (He.ga K "struck_by") fd_struck_by := fun_ofD W_struck_by
  have b_struck_by : Binds K fd_struck_by ["table", "movers"] [] := F_struck_by.binds fun _ _ _ _ _ _ us hl => match us, hl with | [_, _], _ => rfl
  obtain ⟨fd_weight_of, W_weight_of⟩ := c.def_ 60 (d := topD "weight_of" 15 []) rfl
  have m_weight_of : mg ("weight_of" : Str) = some (.ref (He.ga K "weight_of")) := He.glo_ok X G (c.fact 60 rfl)
  have F_weight_of : Fun K "weight_of" "weight_of" s_weight_of (He.ga K "weight_of") fd_weight_of := fun_ofD W_weight_of
  have b_weight_of : Binds K fd_weight_of ["primes"] [] := F_weight_of.binds fun _ _ _ _ _ _ us hl => match us, hl with | [_], _ => rfl
  obtain ⟨fd_logs_at, W_logs_at⟩ := c.def_ 61 (d := topD "logs_at" 19 []) rfl
  have m_logs_at : mg ("logs_at" : Str) = some (.ref (He.ga K "logs_at")) := He.glo_ok X G (c.fact 61 rfl)
  have F_logs_at : Fun K "logs_at" "logs_at" s_logs_at (He.ga K "logs_at") fd_logs_at := fun_ofD W_logs_at
  have b_logs_at : Binds K fd_logs_at ["table", "prime", "quotient"] [] := F_logs_at.binds fun _ _ _ _ _ _ us hl => match us, hl with | [_, _, _], _ => rfl
  obtain ⟨fd_many_with, W_many_with⟩ := c.def_ 62 (d := topD "many_with" 63 []) rfl
  have m_many_with : mg ("many_with" : Str) = some (.ref (He.ga K "many_with")) := He.glo_ok X G (c.fact 62 rfl)
  have F_many_with : Fun K "many_with" "many_with" s_many_with (He.ga K "many_with") fd_many_with := fun_ofD W_many_with
  have b_many_with : Binds K fd_many_with ["table", "primes", "r"] [] := F_many_with.binds fun _ _ _ _ _ _ us hl => match us, hl with | [_, _, _], _ => rfl
  obtain ⟨fd_still_in, W_still_in⟩ := c.def_ 63 (d := topD "still_in" 9 []) rfl
  have m_still_in : mg ("still_in" : Str) = some (.ref (He.ga K "still_in")) := He.glo_ok X G (c.fact 63 rfl)
  have F_still_in : Fun K "still_in" "still_in" s_still_in (He.ga K "still_in") fd_still_in := fun_ofD W_still_in
  have b_still_in : Binds K fd_still_in ["table"] [] := F_still_in.binds fun _ _ _ _ _ _ us hl => match us, hl with | [_], _ => rfl
  obtain ⟨fd_twisted_in, W_twisted_in⟩ := c.def_ 64 (d := topD "twisted_in" 64 []) rfl
  have m_twisted_in : mg ("twisted_in" : Str) = some (.ref (He.ga K "twisted_in")) := He.glo_ok X G (c.fact 64 rfl)
  have F_twisted_in : Fun K "twisted_in" "twisted_in" s_twisted_in (He.ga K "twisted_in") fd_twisted_in := fun_ofD W_twisted_in
  have b_twisted_in : Binds K fd_twisted_in ["table", "r"] [] := F_twisted_in.binds fun _ _ _ _ _ _ us hl => match us, hl with | [_, _], _ => rfl
  obtain ⟨fd_twisted_count, W_twisted_count⟩ := c.def_ 65 (d := topD "twisted_count" 66 []) rfl
  have m_twisted_count : mg ("twisted_count" : Str) = some (.ref (He.ga K "twisted_count")) := He.glo_ok X G (c.fact 65 rfl)
  have F_twisted_count : Fun K "twisted_count" "twisted_count" s_twisted_count (He.ga K "twisted_count") fd_twisted_count := fun_ofD W_twisted_count
  have b_twisted_count : Binds K fd_twisted_count ["table", "r"] [] := F_twisted_count.binds fun _ _ _ _ _ _ us hl => match us, hl with | [_, _], _ => rfl
  obtain ⟨fd__law_counts_go, W__law_counts_go⟩ := c.def_ 66 (d := topD "_law_counts_go" 89 []) rfl
  have m__law_counts_go : mg ("_law_counts_go" : Str) = some (.ref (He.ga K "_law_counts_go")) := He.glo_ok X G (c.fact 66 rfl)
  have F__law_counts_go : Fun K "_law_counts_go" "_law_counts_go" s__law_counts_go (He.ga K "_law_counts_go") fd__law_counts_go := fun_ofD W__law_counts_go
  have b__law_counts_go : Binds K fd__law_counts_go ["_law_src", "_law_chart_here", "_law_rival"] [] := F__law_counts_go.binds fun _ _ _ _ _ _ us hl => match us, hl with | [_, _, _], _ => rfl
  obtain ⟨fd_law, W_law⟩ := c.def_ 67 (d := topD "law" 90 []) rfl
  have m_law : mg ("law" : Str) = some (.ref (He.ga K "law")) := He.glo_ok X G (c.fact 67 rfl)
  have F_law : Fun K "law" "law" s_law (He.ga K "law") fd_law := fun_ofD W_law
  have b_law : Binds K fd_law ["_law_script"] [] := F_law.binds fun _ _ _ _ _ _ us hl => match us, hl with | [_], _ => rfl
  have ef := hfa.symm.trans m_law
  cases ef
  refine ⟨fd_law, fun s v => FunD.bindsA (ps := ["_law_script"]) W_law (fun _ _ _ _ _ _ us hl => match us, hl with | [_], _ => rfl) s [v] rfl, fun base _ _ => ?_⟩
  have D__law_feed : Def P w K mg base "_law_feed" ["_law_script"] [] 1 (sp__law_feed K) := dOf F__law_feed m__law_feed b__law_feed (ok__law_feed  (B := B) (F := F__law_feed))
  have D__law_worlds : Def P w K mg base "_law_worlds" [] [] 1 sp__law_worlds := dOf F__law_worlds m__law_worlds b__law_worlds (ok__law_worlds  (F := F__law_worlds))
  have D__law_draw : Def P w K mg base "_law_draw" ["_law_src", "_law_much"] [] 1 sp__law_draw := dOf F__law_draw m__law_draw b__law_draw (ok__law_draw  (B := B) (F := F__law_draw))
  have D__law_any : Def P w K mg base "_law_any" ["_law_src", "_law_some"] [] 2 sp__law_any := dOf F__law_any m__law_any b__law_any (ok__law_any (D__law_draw := D__law_draw) (B := B) (F := F__law_any))
  have D__law_up : Def P w K mg base "_law_up" ["_law_root", "_law_many_here", "_law_prime"] [] 1 sp__law_up := dOf F__law_up m__law_up b__law_up (ok__law_up  (B := B) (F := F__law_up))
  have D__law_roots : Def P w K mg base "_law_roots" ["_law_p", "_law_q"] [] 2 sp__law_roots := dOf F__law_roots m__law_roots b__law_roots (ok__law_roots (D__law_up := D__law_up) (B := B) (F := F__law_roots))
  have D__law_chart : Def P w K mg base "_law_chart" ["_law_src", "_law_world"] [] 3 sp__law_chart := dOf F__law_chart m__law_chart b__law_chart (ok__law_chart (D__law_any := D__law_any) (D__law_roots := D__law_roots) (B := B) (F := F__law_chart))
  have D__law_near : Def P w K mg base "_law_near" ["_law_src", "_law_chart_here"] [] 3 sp__law_near := dOf F__law_near m__law_near b__law_near (ok__law_near (D__law_draw := D__law_draw) (D__law_up := D__law_up) (D__law_any := D__law_any) (D__law_roots := D__law_roots) (B := B) (F := F__law_near))
  have D__law_cut : Def P w K mg base "_law_cut" ["_law_chart_here", "_law_some"] [] 1 sp__law_cut := dOf F__law_cut m__law_cut b__law_cut (ok__law_cut  (B := B) (F := F__law_cut))
  have D__law_threes : Def P w K mg base "_law_threes" ["_law_chart_here", "_law_rival"] [] 2 sp__law_threes := dOf F__law_threes m__law_threes b__law_threes (ok__law_threes (D__law_cut := D__law_cut) (B := B) (F := F__law_threes))
  have D_want2 : Def P w K mg base "want" ["is_fit", "name", "at"] [(V.int (-1))] 1 sp_want := by
    obtain ⟨ds, v, bb⟩ := FunD.binds1 F_want (ps := ["is_fit", "name", "at"]) 2 0 (by simp) (by rfl) fun T kV doc pm an cdv ct us its h1 h2 => match us, h1, its, h2 with | [_, _], _, [_], _ => ⟨_, rfl, rfl⟩
    exact ⟨_, fd_want, ds, ok_want  (F := F_want), m_want, F_want.kp, bb, v⟩
  have D_is_pair : Def P w K mg base "is_pair" ["value"] [] 1 sp_is_pair := dOf F_is_pair m_is_pair b_is_pair (ok_is_pair  (B := B) (F := F_is_pair))
  have D_is_whole_number : Def P w K mg base "is_whole_number" ["value"] [] 1 sp_is_whole_number := dOf F_is_whole_number m_is_whole_number b_is_whole_number (ok_is_whole_number  (B := B) (F := F_is_whole_number))
  have D_is_undivided : Def P w K mg base "is_undivided" ["number"] [] 1 sp_is_undivided := dOf F_is_undivided m_is_undivided b_is_undivided (ok_is_undivided  (F := F_is_undivided))
  have D_is_small_prime : Def P w K mg base "is_small_prime" ["value"] [] 2 sp_is_small_prime := dOf F_is_small_prime m_is_small_prime b_is_small_prime (ok_is_small_prime (D_is_whole_number := D_is_whole_number) (D_is_undivided := D_is_undivided) (B := B) (F := F_is_small_prime))
  have D_prime_fault : Def P w K mg base "prime_fault" ["primes"] [] 3 sp_prime_fault := dOf F_prime_fault m_prime_fault b_prime_fault (ok_prime_fault (D_is_small_prime := D_is_small_prime) (B := B) (F := F_prime_fault))
  have D_power_in : Def P w K mg base "power_in" ["base", "k", "prime"] [] 1 sp_power_in := dOf F_power_in m_power_in b_power_in (ok_power_in  (F := F_power_in))
  have D_move_fault : Def P w K mg base "move_fault" ["primes", "mover", "row", "j"] [] 2 sp_move_fault := dOf F_move_fault m_move_fault b_move_fault (ok_move_fault (D_is_pair := D_is_pair) (D_is_whole_number := D_is_whole_number) (D_power_in := D_power_in) (F := F_move_fault))
  have D_row_fault : Def P w K mg base "row_fault" ["primes", "moves", "k"] [] 3 sp_row_fault := dOf F_row_fault m_row_fault b_row_fault (ok_row_fault (D_is_pair := D_is_pair) (D_is_whole_number := D_is_whole_number) (D_move_fault := D_move_fault) (B := B) (F := F_row_fault))
  have D_table_fault : Def P w K mg base "table_fault" ["value"] [] 4 sp_table_fault := dOf F_table_fault m_table_fault b_table_fault (ok_table_fault (D_is_pair := D_is_pair) (D_prime_fault := D_prime_fault) (D_row_fault := D_row_fault) (B := B) (F := F_table_fault))
  have D_want_table1 : Def P w K mg base "want_table" ["value", "name"] [(V.str "table")] 5 sp_want_table := by
    obtain ⟨ds, v, bb⟩ := FunD.binds1 F_want_table (ps := ["value", "name"]) 1 0 (by simp) (by rfl) fun T kV doc pm an cdv ct us its h1 h2 => match us, h1, its, h2 with | [_], _, [_], _ => ⟨_, rfl, rfl⟩
    exact ⟨_, fd_want_table, ds, ok_want_table (D_want2 := D_want2) (D_table_fault := D_table_fault) (F := F_want_table), m_want_table, F_want_table.kp, bb, v⟩
  have D_want_table2 : Def P w K mg base "want_table" ["value", "name"] [] 5 sp_want_table := by
    obtain ⟨ds, v, bb⟩ := FunD.binds1 F_want_table (ps := ["value", "name"]) 2 1 (by simp) (by rfl) fun T kV doc pm an cdv ct us its h1 h2 => match us, h1, its, h2 with | [_, _], _, [_], _ => ⟨_, rfl, rfl⟩
    exact ⟨_, fd_want_table, ds, ok_want_table (D_want2 := D_want2) (D_table_fault := D_table_fault) (F := F_want_table), m_want_table, F_want_table.kp, bb, v⟩
  have D_want_both : Def P w K mg base "want_both" ["table", "other"] [] 6 sp_want_both := dOf F_want_both m_want_both b_want_both (ok_want_both (D_want_table1 := D_want_table1) (D_want_table2 := D_want_table2) (F := F_want_both))
  have D_web_in : Def P w K mg base "web_in" ["table"] [] 1 sp_web_in := dOf F_web_in m_web_in b_web_in (ok_web_in  (B := B) (F := F_web_in))
  have D_movers_in : Def P w K mg base "movers_in" ["table"] [] 1 sp_movers_in := dOf F_movers_in m_movers_in b_movers_in (ok_movers_in  (B := B) (F := F_movers_in))
  have D_rows_in : Def P w K mg base "rows_in" ["table"] [] 1 sp_rows_in := dOf F_rows_in m_rows_in b_rows_in (ok_rows_in  (B := B) (F := F_rows_in))
  have D_moved_by : Def P w K mg base "moved_by" ["table", "mover"] [] 2 sp_moved_by := dOf F_moved_by m_moved_by b_moved_by (ok_moved_by (D_rows_in := D_rows_in) (B := B) (F := F_moved_by))
  have D_log_in : Def P w K mg base "log_in" ["base", "goal", "prime", "most"] [] 1 sp_log_in := dOf F_log_in m_log_in b_log_in (ok_log_in  (B := B) (F := F_log_in))
  have D_row_power : Def P w K mg base "row_power" ["row", "k"] [] 2 sp_row_power := dOf F_row_power m_row_power b_row_power (ok_row_power (D_power_in := D_power_in) (B := B) (F := F_row_power))
  have D_power_in_rows : Def P w K mg base "power_in_rows" ["table", "other", "mover"] [] 3 sp_power_in_rows := dOf F_power_in_rows m_power_in_rows b_power_in_rows (ok_power_in_rows (D_rows_in := D_rows_in) (D_moved_by := D_moved_by) (D_log_in := D_log_in) (D_row_power := D_row_power) (F := F_power_in_rows))
  have D_alike_in : Def P w K mg base "alike_in" ["table", "other"] [] 4 sp_alike_in := dOf F_alike_in m_alike_in b_alike_in (ok_alike_in (D_web_in := D_web_in) (D_movers_in := D_movers_in) (D_power_in_rows := D_power_in_rows) (B := B) (F := F_alike_in))
  have D_cut_in : Def P w K mg base "cut_in" ["table", "primes"] [] 1 sp_cut_in := dOf F_cut_in m_cut_in b_cut_in (ok_cut_in  (B := B) (F := F_cut_in))
  have D_is_like_part : Def P w K mg base "is_like_part" ["table", "other"] [] 5 sp_is_like_part := dOf F_is_like_part m_is_like_part b_is_like_part (ok_is_like_part (D_alike_in := D_alike_in) (D_cut_in := D_cut_in) (B := B) (F := F_is_like_part))
  have D_size_in : Def P w K mg base "size_in" ["primes"] [] 1 sp_size_in := dOf F_size_in m_size_in b_size_in (ok_size_in  (F := F_size_in))
  have D_moved_out : Def P w K mg base "moved_out" ["table", "primes"] [] 2 sp_moved_out := dOf F_moved_out m_moved_out b_moved_out (ok_moved_out (D_web_in := D_web_in) (B := B) (F := F_moved_out))
  have D_parts_in : Def P w K mg base "parts_in" ["table", "primes"] [] 3 sp_parts_in := dOf F_parts_in m_parts_in b_parts_in (ok_parts_in (D_size_in := D_size_in) (D_moved_out := D_moved_out) (F := F_parts_in))
  have D_alike_parts_in : Def P w K mg base "alike_parts_in" ["table", "other"] [] 6 sp_alike_parts_in := dOf F_alike_parts_in m_alike_parts_in b_alike_parts_in (ok_alike_parts_in (D_is_like_part := D_is_like_part) (D_parts_in := D_parts_in) (F := F_alike_parts_in))
  have D_parts_alike : Def P w K mg base "parts_alike" ["table", "other"] [] 7 sp_parts_alike := dOf F_parts_alike m_parts_alike b_parts_alike (ok_parts_alike (D_want_both := D_want_both) (D_alike_parts_in := D_alike_parts_in) (F := F_parts_alike))
  have D__law_web : Def P w K mg base "_law_web" ["_law_chart_here"] [] 1 sp__law_web := dOf F__law_web m__law_web b__law_web (ok__law_web  (B := B) (F := F__law_web))
  have D__law_movers : Def P w K mg base "_law_movers" ["_law_chart_here"] [] 1 sp__law_movers := dOf F__law_movers m__law_movers b__law_movers (ok__law_movers  (F := F__law_movers))
  have D__law_row : Def P w K mg base "_law_row" ["_law_chart_here", "_law_p"] [] 1 sp__law_row := dOf F__law_row m__law_row b__law_row (ok__law_row  (F := F__law_row))
  have D__law_power_between : Def P w K mg base "_law_power_between" ["_law_one", "_law_two", "_law_p"] [] 2 sp__law_power_between := dOf F__law_power_between m__law_power_between b__law_power_between (ok__law_power_between (D__law_row := D__law_row) (D__law_up := D__law_up) (B := B) (F := F__law_power_between))
  have D__law_are_alike : Def P w K mg base "_law_are_alike" ["_law_one", "_law_two"] [] 3 sp__law_are_alike := dOf F__law_are_alike m__law_are_alike b__law_are_alike (ok__law_are_alike (D__law_web := D__law_web) (D__law_movers := D__law_movers) (D__law_power_between := D__law_power_between) (F := F__law_are_alike))
  have D__law_many : Def P w K mg base "_law_many" ["_law_chart_here", "_law_goal"] [] 4 sp__law_many := dOf F__law_many m__law_many b__law_many (ok__law_many (D__law_are_alike := D__law_are_alike) (D__law_cut := D__law_cut) (D__law_web := D__law_web) (B := B) (F := F__law_many))
  have D__law_same : DefG P w K mg base "_law_same" ["_law_told", "_law_due"] 1 sp__law_same := dOfG F__law_same m__law_same b__law_same (ok__law_same  (B := B) (F := F__law_same))
  have D_are_alike : Def P w K mg base "are_alike" ["table", "other"] [] 7 sp_are_alike := dOf F_are_alike m_are_alike b_are_alike (ok_are_alike (D_want_both := D_want_both) (D_alike_in := D_alike_in) (F := F_are_alike))
  have D__law_are_told : DefG P w K mg base "_law_are_told" ["_law_chart_here", "_law_rival"] 8 sp__law_are_told := dOfG F__law_are_told m__law_are_told b__law_are_told (ok__law_are_told (D__law_threes := D__law_threes) (D_parts_alike := D_parts_alike) (D__law_many := D__law_many) (D__law_same := D__law_same) (D__law_are_alike := D__law_are_alike) (D_are_alike := D_are_alike) (F := F__law_are_told))
  have D_are_rising : Def P w K mg base "are_rising" ["numbers"] [] 1 sp_are_rising := dOf F_are_rising m_are_rising b_are_rising (ok_are_rising  (B := B) (F := F_are_rising))
  have D_are_primes_among : Def P w K mg base "are_primes_among" ["primes", "value"] [] 2 sp_are_primes_among := dOf F_are_primes_among m_are_primes_among b_are_primes_among (ok_are_primes_among (D_is_whole_number := D_is_whole_number) (D_are_rising := D_are_rising) (B := B) (F := F_are_primes_among))
  have D_want_primes2 : Def P w K mg base "want_primes" ["table", "value", "name"] [(V.str "primes")] 3 sp_want_primes := by
    obtain ⟨ds, v, bb⟩ := FunD.binds1 F_want_primes (ps := ["table", "value", "name"]) 2 0 (by simp) (by rfl) fun T kV doc pm an cdv ct us its h1 h2 => match us, h1, its, h2 with | [_, _], _, [_], _ => ⟨_, rfl, rfl⟩
    exact ⟨_, fd_want_primes, ds, ok_want_primes (D_want2 := D_want2) (D_are_primes_among := D_are_primes_among) (F := F_want_primes), m_want_primes, F_want_primes.kp, bb, v⟩
  have D_cut_to : Def P w K mg base "cut_to" ["table", "primes"] [] 6 sp_cut_to := dOf F_cut_to m_cut_to b_cut_to (ok_cut_to (D_want_table1 := D_want_table1) (D_want_primes2 := D_want_primes2) (D_cut_in := D_cut_in) (F := F_cut_to))
  have D__law_pairs_tell : DefG P w K mg base "_law_pairs_tell" ["_law_chart_here", "_law_rival"] 8 sp__law_pairs_tell := dOfG F__law_pairs_tell m__law_pairs_tell b__law_pairs_tell (ok__law_pairs_tell (D__law_web := D__law_web) (D_cut_to := D_cut_to) (D__law_same := D__law_same) (D__law_cut := D__law_cut) (D_are_alike := D_are_alike) (D__law_are_alike := D__law_are_alike) (B := B) (F := F__law_pairs_tell))
  have D_part_count : Def P w K mg base "part_count" ["table", "primes"] [] 6 sp_part_count := dOf F_part_count m_part_count b_part_count (ok_part_count (D_want_table1 := D_want_table1) (D_want_primes2 := D_want_primes2) (D_parts_in := D_parts_in) (F := F_part_count))
  have D_part_countK : DefK P w K mg base "part_count" ["table", "primes"] ["primes", "table"] 6 sp_part_count := ⟨_, fd_part_count, ok_part_count (D_want_table1 := D_want_table1) (D_want_primes2 := D_want_primes2) (D_parts_in := D_parts_in) (F := F_part_count), m_part_count, F_part_count.kp, kb_part F_part_count⟩
  have D__law_factors : Def P w K mg base "_law_factors" ["_law_chart_here", "_law_item"] [] 2 sp__law_factors := dOf F__law_factors m__law_factors b__law_factors (ok__law_factors (D__law_up := D__law_up) (B := B) (F := F__law_factors))
  have D__law_twist : Def P w K mg base "_law_twist" ["_law_chart_here", "_law_r"] [] 3 sp__law_twist := dOf F__law_twist m__law_twist b__law_twist (ok__law_twist (D__law_movers := D__law_movers) (D__law_web := D__law_web) (D__law_factors := D__law_factors) (B := B) (F := F__law_twist))
  have D_is_count : Def P w K mg base "is_count" ["value"] [] 2 sp_is_count := dOf F_is_count m_is_count b_is_count (ok_is_count (D_is_whole_number := D_is_whole_number) (F := F_is_count))
  have D_subsets_of : Def P w K mg base "subsets_of" ["primes"] [] 1 sp_subsets_of := dOf F_subsets_of m_subsets_of b_subsets_of (ok_subsets_of  (F := F_subsets_of))
  have D_moved_in : Def P w K mg base "moved_in" ["table"] [] 2 sp_moved_in := dOf F_moved_in m_moved_in b_moved_in (ok_moved_in (D_web_in := D_web_in) (B := B) (F := F_moved_in))
  have D_other_moved : Def P w K mg base "other_moved" ["table", "gone"] [] 3 sp_other_moved := dOf F_other_moved m_other_moved b_other_moved (ok_other_moved (D_moved_in := D_moved_in) (B := B) (F := F_other_moved))
  have D_movers_on : Def P w K mg base "movers_on" ["table", "prime"] [] 2 sp_movers_on := dOf F_movers_on m_movers_on b_movers_on (ok_movers_on (D_web_in := D_web_in) (B := B) (F := F_movers_on))
  have D_struck_by : Def P w K mg base "struck_by" ["table", "movers"] [] 3 sp_struck_by := dOf F_struck_by m_struck_by b_struck_by (ok_struck_by (D_moved_in := D_moved_in) (D_movers_on := D_movers_on) (B := B) (F := F_struck_by))
  have D_weight_of : Def P w K mg base "weight_of" ["primes"] [] 1 sp_weight_of := dOf F_weight_of m_weight_of b_weight_of (ok_weight_of  (F := F_weight_of))
  have D_logs_at : Def P w K mg base "logs_at" ["table", "prime", "quotient"] [] 3 sp_logs_at := dOf F_logs_at m_logs_at b_logs_at (ok_logs_at (D_movers_on := D_movers_on) (D_size_in := D_size_in) (D_power_in := D_power_in) (D_rows_in := D_rows_in) (D_log_in := D_log_in) (B := B) (F := F_logs_at))
  have D_many_with : Def P w K mg base "many_with" ["table", "primes", "r"] [] 4 sp_many_with := dOf F_many_with m_many_with b_many_with (ok_many_with (D_logs_at := D_logs_at) (D_size_in := D_size_in) (D_movers_in := D_movers_in) (F := F_many_with))
  have D_still_in : Def P w K mg base "still_in" ["table"] [] 2 sp_still_in := dOf F_still_in m_still_in b_still_in (ok_still_in (D_web_in := D_web_in) (B := B) (F := F_still_in))
  have D_twisted_in : Def P w K mg base "twisted_in" ["table", "r"] [] 5 sp_twisted_in := dOf F_twisted_in m_twisted_in b_twisted_in (ok_twisted_in (D_subsets_of := D_subsets_of) (D_movers_in := D_movers_in) (D_other_moved := D_other_moved) (D_struck_by := D_struck_by) (D_weight_of := D_weight_of) (D_many_with := D_many_with) (D_still_in := D_still_in) (D_size_in := D_size_in) (D_moved_in := D_moved_in) (B := B) (F := F_twisted_in))
  have D_twisted_count : Def P w K mg base "twisted_count" ["table", "r"] [] 6 sp_twisted_count := dOf F_twisted_count m_twisted_count b_twisted_count (ok_twisted_count (D_want_table1 := D_want_table1) (D_want2 := D_want2) (D_is_count := D_is_count) (D_twisted_in := D_twisted_in) (F := F_twisted_count))
  have D__law_counts_go : DefG P w K mg base "_law_counts_go" ["_law_src", "_law_chart_here", "_law_rival"] 7 sp__law_counts_go := dOfG F__law_counts_go m__law_counts_go b__law_counts_go (ok__law_counts_go (D__law_draw := D__law_draw) (D__law_web := D__law_web) (D__law_same := D__law_same) (D_part_count := D_part_count) (D_part_countK := D_part_countK) (D__law_twist := D__law_twist) (D_twisted_count := D_twisted_count) (D__law_are_alike := D__law_are_alike) (B := B) (F := F__law_counts_go))
  exact ok_law good (D__law_feed := D__law_feed) (D__law_worlds := D__law_worlds) (D__law_chart := D__law_chart) (D__law_any := D__law_any) (D__law_near := D__law_near) (D__law_are_told := D__law_are_told) (D__law_pairs_tell := D__law_pairs_tell) (D__law_counts_go := D__law_counts_go) (B := B) (F := F_law)
end Wa
set_option maxHeartbeats 0
/-! The row. -/
open PySem PySem.W PySem.Calls PyProof.Rows
theorem PySem.Challenge.cw_whoacts_k82_whole_three_primes_tell_alik_holds : PySem.Challenge.rw_whoacts_k82_whole_three_primes_tell_alik.Holds := by
  w_on; o_law
  refine HandSHeadRun.head_any (r := Wa.theRow) (q := view Wa.theRow.prog [90]) (H := Wa.hk) (ob := Wa.ob) (M := 4000) (loose := Wa.nm) (d := HandSHeadRun.topDef Wa.theRow.prog 90) (kwd := []) Wa.ob_eq
    (by kernel_rfl) (fun s => by kernel_rfl) Wa.run (by kernel_rfl) (by kernel_rfl) (by kernel_rfl) (by rfl) (by first | assumption | decide +kernel) (by decide +kernel) ⟨rfl, rfl, rfl, rfl, rfl, by decide +kernel⟩ ?hw ?hc
  case hw => w_witness2
  case hc =>
    refine Wa.walk_G (l := PySem.Challenge.rw_whoacts_k82_whole_three_primes_tell_alik) (n := 63) (k := 9) (x := "_law_script") rfl (by decide) (by kernel_rfl) ⟨rfl, by decide, by decide⟩ ?F
    rintro w mg fa h ⟨K, kin, c⟩ G hmg0
    have hmg : mg ("law" : PySem.Str) = some (.ref fa) := by
      have e : (HandSHeadRun.topDef Wa.theRow.prog 90).name = ("law" : PySem.Str) := by kernel_rfl
      rw [← e]
      exact hmg0
    obtain ⟨fd, bd, run⟩ := Wa.ends (P := (PySem.Challenge.rw_whoacts_k82_whole_three_primes_tell_alik).prog) (w := w) kin G hmg c
    exact ⟨K, fd, Wa.sp_law K, kin, bd, fun H a ns hS => ⟨a, ns, rfl, hS, fun _ => rfl⟩, run⟩
